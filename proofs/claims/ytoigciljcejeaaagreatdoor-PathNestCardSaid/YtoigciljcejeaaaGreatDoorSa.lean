/-
  The base of a proof layer over the kit's wp: pure data D, abstract values AV, an abstract store, and the relation to frames and worlds.
-/
import Derived.WalkKit
import Derived.Deep.Quiet
import Derived.OrdersIn
import Derived.LoopNIn
import Derived.RangeFuncLeaves
import Derived.TacticsIn
import Derived.RangeFuncRecord
set_option linter.all false
namespace Go.Sk
universe u v
theorem kR{p:Prop}(h:p:=by kernel_rfl):p:=h
theorem dC{p:Prop}(h:p:=by decide):p:=h
theorem oM{p:Prop}(h:p:=by omega):p:=h
theorem sM{p:Prop}(h:p:=by simp):p:=h
theorem bnS{α:Type u}{β:Type v}(a:α)(f:α->Option β):Option.bind (some a) f=f a:=rfl
theorem ao{α:Type u}{a b:α}:(some a=some b)=(a=b):=Option.some.injEq a b
theorem cdF{α:Sort u}{a b:α}:(bif false then a else b)=b:=rfl
theorem cdT{α:Sort u}{a b:α}:(bif true then a else b)=a:=rfl
theorem dcT{p:Prop}[Decidable p](h:p):decide p=true:=decide_eq_true h
theorem dcF{p:Prop}[Decidable p](h:¬p):decide p=false:=decide_eq_false h
theorem giS{α:Type u}{l:List α}{i:Nat}{a:α}:l[i]? =some a↔∃h:i<l.length,l[i]=a:=List.getElem?_eq_some_iff
theorem nbT{a b:Nat}(h:Nat.ble a b=true):a<=b:=Nat.le_of_ble_eq_true h
theorem nbE{a b:Nat}(h:Nat.beq a b=true):a=b:=Nat.eq_of_beq_eq_true h
theorem geG{α:Type u}{l:List α}{i:Nat}(h:i<l.length):l[i]? =some l[i]:=List.getElem?_eq_getElem h
theorem inS{α:Type u}{a b:α}(h:some a=some b):a=b:=Option.some.inj h
end Go.Sk
namespace Go.Sk
open Go.RowKit (Below)
inductive D where
 |v(x:Value)
 |sl(es:List (List D))
 |pc(ps:List D)
 |ag(ps:List D)
 |tu(ps:List D)
 |ifc(t:TypeId)(x:D)
 |fnc(f:Fn)(first caps:List D)
 deriving Inhabited
abbrev D.i(k:IntKind)(n:Int):D:= .v (.int k n)
abbrev D.n(n:Int):D:= .v (.int .i64 n)
abbrev D.b(x:Bool):D:= .v (.bool x)
abbrev D.s(x:ByteArray):D:= .v (.string x)
def _root_.Go.World.rd(w:World)(b off:Nat):Option Value:=if w.frozen? ⟨b,off,none⟩ then none else w.cell? ⟨b,off,none⟩
theorem ip{w:World}{b off:Nat}{c:Value}(h:w.rd b off=some c):w.cell? ⟨b,off,none⟩=some c:=by unfold World.rd at h;split at h<;>simp_all
theorem ov{w:World}{b off:Nat}{c:Value}(h:w.cell? ⟨b,off,none⟩=some c)(h2:w.frozen? ⟨b,off,none⟩=false):w.rd b off=some c:=by unfold World.rd;simp[h,h2]
theorem cu{w w':World}{b:Nat}(h:w'.heap[b]? =w.heap[b]?)(off:Nat):w'.rd b off=w.rd b off:=by unfold World.rd World.frozen? World.cell?;simp only[h]
mutual
def RD(φ:Nat->Nat)(w:World):D->Value->Prop
 | .v x,y=>y=x
 | .sl es,y=>(es=[]/\∃a cap,y= .slice a 0 cap/\(a=none->cap=0))\/
   ∃b off k cap,y= .slice (some ⟨b,off,none⟩) es.length cap/\es.length<=cap/\(∀e∈es,e.length=k)/\REs φ w es k b off
 | .pc ps,y=>∃b off,y= .pointer (some ⟨b,off,none⟩)/\RPs φ w ps b off
 | .ag ps,y=>∃cs,y= .agg ⟨cs⟩/\RFs φ w ps cs
 | .tu ps,y=>∃cs,y= .tuple ⟨cs⟩/\RFs φ w ps cs
 | .ifc t x,y=>∃z,y= .iface t z/\RD φ w x z
 | .fnc f first caps,y=>∃fs cs,y= .func f ⟨fs⟩ ⟨cs⟩/\RFs φ w first fs/\RFs φ w caps cs
def RPs(φ:Nat->Nat)(w:World):List D->Nat->Nat->Prop
 |[],_,_=>True
 |p::ps,b,off=>(off<φ b/\∃c,w.rd b off=some c/\RD φ w p c)/\RPs φ w ps b (off+1)
def REs(φ:Nat->Nat)(w:World):List (List D)->Nat->Nat->Nat->Prop
 |[],_,_,_=>True
 |e::es,k,b,off=>RPs φ w e b off/\REs φ w es k b (off+k)
def RFs(φ:Nat->Nat)(w:World):List D->List Value->Prop
 |[],cs=>cs=[]
 |p::ps,cs=>∃c cs',cs=c::cs'/\RD φ w p c/\RFs φ w ps cs'
end
def Fz(φ:Nat->Nat)(w:World)(φ':Nat->Nat)(w':World):Prop:=
 ∀b off c,off<φ b->w.rd b off=some c->off<φ' b/\w'.rd b off=some c
theorem Fz.refl(φ:Nat->Nat)(w:World):Fz φ w φ w:=λ_ _ _ h h'=>⟨h,h'⟩
theorem Fz.trans{φ φ' φ'':Nat->Nat}{w w' w'':World}(h:Fz φ w φ' w')(k:Fz φ' w' φ'' w''):Fz φ w φ'' w'':=
 λb off c h1 h2=>let ⟨a,b'⟩:=h b off c h1 h2;k b off c a b'
mutual
theorem RD.mono{φ φ':Nat->Nat}{w w':World}(hF:Fz φ w φ' w'):∀(d:D)(y:Value),RD φ w d y->RD φ' w' d y
 | .v x,y,h=>by simpa[RD] using h
 | .sl es,y,h=>by
  simp only[RD] at h⊢;rcases h with h|⟨b,off,k,cap,h1,h2,h3,h4⟩
  exact .inl h;exact .inr ⟨b,off,k,cap,h1,h2,h3,REs.mono hF es k b off h4⟩
 | .pc ps,y,h=>by
  simp only[RD] at h⊢;obtain⟨b,off,h1,h2⟩:=h;exact⟨b,off,h1,RPs.mono hF ps b off h2⟩
 | .ag ps,y,h=>by
  simp only[RD] at h⊢;obtain⟨cs,h1,h2⟩:=h;exact⟨cs,h1,RFs.mono hF ps cs h2⟩
 | .tu ps,y,h=>by
  simp only[RD] at h⊢;obtain⟨cs,h1,h2⟩:=h;exact⟨cs,h1,RFs.mono hF ps cs h2⟩
 | .ifc t x,y,h=>by
  simp only[RD] at h⊢;obtain⟨z,h1,h2⟩:=h;exact⟨z,h1,RD.mono hF x z h2⟩
 | .fnc f first caps,y,h=>by
  simp only[RD] at h⊢;obtain⟨fs,cs,h1,h2,h3⟩:=h;exact⟨fs,cs,h1,RFs.mono hF first fs h2,RFs.mono hF caps cs h3⟩
theorem RPs.mono{φ φ':Nat->Nat}{w w':World}(hF:Fz φ w φ' w'):∀(ps:List D)(b off:Nat),RPs φ w ps b off->RPs φ' w' ps b off
 |[],_,_,_=>by simp[RPs]
 |p::ps,b,off,h=>by
  simp only[RPs] at h⊢;obtain⟨⟨h1,c,h2,h3⟩,h4⟩:=h;have:=hF b off c h1 h2;exact⟨⟨this.1,c,this.2,RD.mono hF p c h3⟩,RPs.mono hF ps b (off+1) h4⟩
theorem REs.mono{φ φ':Nat->Nat}{w w':World}(hF:Fz φ w φ' w'):∀(es:List (List D))(k b off:Nat),REs φ w es k b off->REs φ' w' es k b off
 |[],_,_,_,_=>by simp[REs]
 |e::es,k,b,off,h=>by
  simp only[REs] at h⊢;exact⟨RPs.mono hF e b off h.1,REs.mono hF es k b (off+k) h.2⟩
theorem RFs.mono{φ φ':Nat->Nat}{w w':World}(hF:Fz φ w φ' w'):∀(ps:List D)(cs:List Value),RFs φ w ps cs->RFs φ' w' ps cs
 |[],cs,h=>by simpa[RFs] using h
 |p::ps,cs,h=>by
  simp only[RFs] at h⊢;obtain⟨c,cs',h1,h2,h3⟩:=h;exact⟨c,cs',h1,RD.mono hF p c h2,RFs.mono hF ps cs' h3⟩
end
end Go.Sk
namespace Go.Sk
def nt:List Int:=[0,1,1,2,2,3,3,3,3,1,1,3,10,10,10,1,1,1,1,1,1,1,1,1,1,1,1,1,1,1,1,1,2,5,5,3,1,1,5,5,1,1,3,3,20,20,15,15,15,30,30,20,25,8,15,12,30,10]
def dm:List Int:=[0,0,0,0,0,0,0,0,0,1,1,1,1,1,0,0,0,0,0,0,0,0,0,0,0,0,0,0,0,0,0,0,1,0,0,0,0,0,0,0,0,0,0,0,0,0,0,0,0,0,0,0,0,0,0,0,0,0,0,0,0,0,0,0,0,0,0,0,0,0,0,0,0,0,0,0,0,0,0,0,0,0,0,0,0,0,0,0,0,0,0,0,0,0,0,0,0,0,0,0,0,0,0,0,0,0,0,0,0,0,0,0,0,0,0,0,0,0,0,0,0,0,0,0,0,0,0,0,0,0,0,0,0,0,0,0,0,0,0,0,0,0,0,0,0,0,0,0,0,0,0,0,0,0,0,0,0,0,0,0,0,0,0,0,0,0,0,0,0,0,0,0,0,0,0,0,0,0,0,0,0,0,0,0,0,0,0,0,0,0,0,0,0,0,0,0,0,0,0,0,0,0,0,0,0,0,0,0,0,0,0,0,0,0,0,0,0,0,0,0,0,0,0,0,0,0,0,0,0,0,0,0,0,0,0,0,0,0,0,0,0,0,0,0,0,0,0,0,0,0,0,0,0,0,0,0]
def mV:List (ByteArray×ByteArray):=[(ByteArray.mk #[108,105],ByteArray.mk #[68,114,32,78,118]),(ByteArray.mk #[109,118],ByteArray.mk #[68,114,32,65,114]),(ByteArray.mk #[108,100],ByteArray.mk #[68,114,32,78,111,32,77,115]),(ByteArray.mk #[115,116],ByteArray.mk #[65,114,32,78,111,32,77,115]),(ByteArray.mk #[108,100,120],ByteArray.mk #[68,114,32,65,114,32,66,108,32,78,111,32,77,115]),(ByteArray.mk #[115,116,120],ByteArray.mk #[68,114,32,65,114,32,66,108,32,78,111,32,77,115]),(ByteArray.mk #[108,100,97],ByteArray.mk #[68,114,32,65,114]),(ByteArray.mk #[115,116,97],ByteArray.mk #[68,114,32,65,114]),(ByteArray.mk #[97,100,100],ByteArray.mk #[68,114,32,65,114,32,66,114]),(ByteArray.mk #[115,117,98],ByteArray.mk #[68,114,32,65,114,32,66,114]),(ByteArray.mk #[109,117,108],ByteArray.mk #[68,114,32,65,114,32,66,114]),(ByteArray.mk #[100,105,118],ByteArray.mk #[68,114,32,65,114,32,66,114]),(ByteArray.mk #[114,101,109],ByteArray.mk #[68,114,32,65,114,32,66,114]),(ByteArray.mk #[109,111,100],ByteArray.mk #[68,114,32,65,114,32,66,114]),(ByteArray.mk #[101,113],ByteArray.mk #[68,114,32,65,114,32,66,114]),(ByteArray.mk #[110,101],ByteArray.mk #[68,114,32,65,114,32,66,114]),(ByteArray.mk #[108,116],ByteArray.mk #[68,114,32,65,114,32,66,114]),(ByteArray.mk #[108,101],ByteArray.mk #[68,114,32,65,114,32,66,114]),(ByteArray.mk #[103,116],ByteArray.mk #[68,114,32,65,114,32,66,114]),(ByteArray.mk #[103,101],ByteArray.mk #[68,114,32,65,114,32,66,114]),(ByteArray.mk #[97,110,100],ByteArray.mk #[68,114,32,65,114,32,66,114]),(ByteArray.mk #[111,114],ByteArray.mk #[68,114,32,65,114,32,66,114]),(ByteArray.mk #[120,111,114],ByteArray.mk #[68,114,32,65,114,32,66,114]),(ByteArray.mk #[110,101,103],ByteArray.mk #[68,114,32,65,114]),(ByteArray.mk #[97,98,115],ByteArray.mk #[68,114,32,65,114]),(ByteArray.mk #[110,111,116],ByteArray.mk #[68,114,32,65,114]),(ByteArray.mk #[99,104,107],ByteArray.mk #[65,114,32,78,118,32,77,118]),(ByteArray.mk #[99,104,107,122],ByteArray.mk #[65,114]),(ByteArray.mk #[106,109,112],ByteArray.mk #[84,115]),(ByteArray.mk #[106,122],ByteArray.mk #[65,114,32,84,115]),(ByteArray.mk #[106,110,122],ByteArray.mk #[65,114,32,84,115]),(ByteArray.mk #[106,116],ByteArray.mk #[65,114,32,78,118,32,77,108,32,84,115]),(ByteArray.mk #[114,97,105,115,101],ByteArray.mk #[78,120]),(ByteArray.mk #[114,97,105,115,101,114],ByteArray.mk #[65,114]),(ByteArray.mk #[99,111,110,116],ByteArray.mk #[65,114]),(ByteArray.mk #[101,120,99],ByteArray.mk #[68,114]),(ByteArray.mk #[109,97,114,107],ByteArray.mk #[78,107,32,77,115]),(ByteArray.mk #[103,101,116],ByteArray.mk #[68,114]),(ByteArray.mk #[112,117,116],ByteArray.mk #[65,114]),(ByteArray.mk #[100,101,102,101,114],ByteArray.mk #[]),(ByteArray.mk #[97,108,108,111,119],ByteArray.mk #[]),(ByteArray.mk #[99,108,111,99,107],ByteArray.mk #[68,114]),(ByteArray.mk #[99,111,117,110,116],ByteArray.mk #[68,114,32,78,101,32,77,113]),(ByteArray.mk #[115,116,97,114,116],ByteArray.mk #[78,115]),(ByteArray.mk #[110,101,118,101,114],ByteArray.mk #[78,115]),(ByteArray.mk #[97,119,97,105,116],ByteArray.mk #[65,114,32,78,115]),(ByteArray.mk #[100,101,108,97,121],ByteArray.mk #[65,114]),(ByteArray.mk #[117,110,116,105,108],ByteArray.mk #[65,114]),(ByteArray.mk #[99,97,108,108],ByteArray.mk #[68,114,32,65,112,32,66,101,32,78,111,32,77,109]),(ByteArray.mk #[115,101,108],ByteArray.mk #[78,106]),(ByteArray.mk #[100,111,110,101],ByteArray.mk #[78,98]),(ByteArray.mk #[114,101,113],ByteArray.mk #[65,112,32,66,101,32,78,98,32,84,115]),(ByteArray.mk #[108,111,99,107],ByteArray.mk #[78,112]),(ByteArray.mk #[112,101,110,116],ByteArray.mk #[68,114,32,65,114,32,66,109,32,78,112,32,77,101]),(ByteArray.mk #[117,110,108,111,99,107],ByteArray.mk #[78,112]),(ByteArray.mk #[97,98,111,114,116],ByteArray.mk #[78,115]),(ByteArray.mk #[101,110,100],ByteArray.mk #[])]
def gpc:Nat->Option (List D)
 |0=>some (nt.map (D.i .i64))
 |1=>some (mV.flatMap λp=> [D.s p.1,D.s p.2])
 |2=>some (dm.map (D.i .u8))
 |_=>none
end Go.Sk
namespace Go.Sk
open Go.RowKit (Below)
def Gl(φ:Nat->Nat)(w:World):Prop:=∀g ps,gpc g=some ps->RPs φ w ps g 0
theorem Gl.mono{φ φ':Nat->Nat}{w w':World}(h:Gl φ w)(hF:Fz φ w φ' w'):Gl φ' w':=λg ps hg=>RPs.mono hF ps g 0 (h g ps hg)
inductive Cz where
 |blk(b:Nat)
 |tok(ver:Nat)(y:Value)
 |fam(ver:Nat)(ys:List Value)
 |non
 deriving Inhabited
def Cz.has:Cz->Nat->Prop
 | .blk b',b=>b'=b
 | .tok _ y,b=>y.ownBlock=some b
 | .fam _ ys,b=>∃y∈ys,y.ownBlock=some b
 | .non,_=>False
inductive AV where
 |u
 |d(x:D)
 |ag(ps:List AV)
 |pt(id off:Nat)
 |sr(id off len cap:Nat)
 |fn(f:Fn)(first caps:List AV)
 |mp(id:Nat)
 |tu(l:List AV)
 |os(id ver:Nat)
 |pe(id ver off:Nat)
 |ow(id ver off len lo:Nat)
 |fs(es:List (List D))
 |ifc(t:TypeId)(x:AV)
 |osf(id j ver:Nat)
 |pem(id j ver off:Nat)
 |yl(id:Nat)
 |kv(y:Value)(x:D)
 deriving Inhabited
mutual
def RA(m:List Cz)(φ:Nat->Nat)(w:World):AV->Value->Prop
 | .u,_=>True
 | .d x,y=>RD φ w x y
 | .ag ps,y=>∃cs,y= .agg ⟨cs⟩/\RAs m φ w ps cs
 | .pt id off,y=>∃b,m[id]? =some (.blk b)/\y= .pointer (some ⟨b,off,none⟩)
 | .sr id off len cap,y=>∃b,m[id]? =some (.blk b)/\y= .slice (some ⟨b,off,none⟩) len cap
 | .fn f first caps,y=>∃fs cs,y= .func f ⟨fs⟩ ⟨cs⟩/\RAs m φ w first fs/\RAs m φ w caps cs
 | .mp id,y=>∃b,m[id]? =some (.blk b)/\y= .map (some b)
 | .tu l,y=>∃cs,y= .tuple ⟨cs⟩/\RAs m φ w l cs
 | .os id ver,y=>∃ver0 y0,m[id]? =some (.tok ver0 y0)/\ver<=ver0/\(ver=ver0->y=y0)
 | .pe id ver off,y=>∃ver0 y0,m[id]? =some (.tok ver0 y0)/\ver<=ver0/\(ver=ver0->∃b len cap,y0= .slice (some ⟨b,0,none⟩) len cap/\y= .pointer (some ⟨b,off,none⟩))
 | .ow id ver off len lo,y=>∃ver0 y0,m[id]? =some (.tok ver0 y0)/\ver<=ver0/\(ver=ver0->(y0= .slice none 0 0/\y= .slice none 0 0/\len=0)\/∃b n cap off',y0= .slice (some ⟨b,0,none⟩) n cap/\y= .slice (some ⟨b,off',none⟩) len (cap - lo)/\(off'=off\/len=0))
 | .fs es,y=>RD φ w (.sl es) y/\∃a,y= .slice a es.length es.length
 | .ifc t x,y=>∃z,y= .iface t z/\RA m φ w x z
 | .osf id j ver,y=>∃ver0 ys,m[id]? =some (.fam ver0 ys)/\ver<=ver0/\(ver=ver0->ys[j]? =some y)
 | .pem id j ver off,y=>∃ver0 ys,m[id]? =some (.fam ver0 ys)/\ver<=ver0/\(ver=ver0->∃b len cap,ys[j]? =some (.slice (some ⟨b,0,none⟩) len cap)/\y= .pointer (some ⟨b,off,none⟩))
 | .yl id,y=>∃b,m[id]? =some (.blk b)/\y= .func (.yield b) #[] #[]
 | .kv v x,y=>y=v/\RD φ w x y
def RAs(m:List Cz)(φ:Nat->Nat)(w:World):List AV->List Value->Prop
 |[],cs=>cs=[]
 |p::ps,cs=>∃c cs',cs=c::cs'/\RA m φ w p c/\RAs m φ w ps cs'
end
def Cz.le:Cz->Cz->Prop
 | .blk b,c=>c= .blk b
 | .tok v y,c=>c= .tok v y\/∃v' y',c= .tok v' y'/\v<v'
 | .fam v ys,c=>c= .fam v ys\/∃v' ys',c= .fam v' ys'/\v<v'
 | .non,_=>True
theorem Cz.le_refl(c:Cz):c.le c:=by cases c<;>simp[Cz.le]
theorem Cz.le_trans{a b c:Cz}(h:a.le b)(k:b.le c):a.le c:=by
 cases a with
 |non=>trivial
 |blk x=>simp only[Cz.le] at h;subst h;exact k
 |tok v y=>
  simp only[Cz.le] at h;rcases h with rfl|⟨v',y',rfl,h⟩
  exact k;simp only[Cz.le] at k⊢;rcases k with rfl|⟨v'',y'',rfl,k⟩
  exact .inr ⟨v',y',rfl,h⟩;exact .inr ⟨v'',y'',rfl,Nat.lt_trans h k⟩
 |fam v y=>
  simp only[Cz.le] at h;rcases h with rfl|⟨v',y',rfl,h⟩
  exact k;simp only[Cz.le] at k⊢;rcases k with rfl|⟨v'',y'',rfl,k⟩
  exact .inr ⟨v',y',rfl,h⟩;exact .inr ⟨v'',y'',rfl,Nat.lt_trans h k⟩
def Pre(m m':List Cz):Prop:=∀(i:Nat)(c:Cz),m[i]? =some c->∃c',m'[i]? =some c'/\c.le c'
theorem Pre.refl(m:List Cz):Pre m m:=λ_ c h=>⟨c,h,Cz.le_refl c⟩
theorem Pre.trans{m m' m'':List Cz}(h:Pre m m')(k:Pre m' m''):Pre m m'':=λi c x=>
 let ⟨c',h1,h2⟩:=h i c x;let ⟨c'',h3,h4⟩:=k i c' h1
 ⟨c'',h3,Cz.le_trans h2 h4⟩
theorem Pre.blk{m m':List Cz}(h:Pre m m'){i b:Nat}(hi:m[i]? =some (.blk b)):m'[i]? =some (.blk b):=by obtain⟨c',h1,h2⟩:=h i _ hi;simp only[Cz.le] at h2;rw[h1,h2]
theorem Pre.append(m l:List Cz):Pre m (m++l):=λi c h=>⟨c,by
 have:i<m.length:=by
  rcases Nat.lt_or_ge i m.length with h'|h'
  exact h';simp[List.getElem?_eq_none h'] at h
 rw[List.getElem?_append_left this];exact h,Cz.le_refl c⟩
mutual
theorem RA.mono{m m':List Cz}{φ φ':Nat->Nat}{w w':World}(hm:Pre m m')(hF:Fz φ w φ' w'):∀(x:AV)(y:Value),RA m φ w x y->RA m' φ' w' x y
 | .u,_,_=>by simp[RA]
 | .d x,y,h=>by simp only[RA] at h⊢;exact RD.mono hF x y h
 | .ag ps,y,h=>by
  simp only[RA] at h⊢;obtain⟨cs,h1,h2⟩:=h;exact⟨cs,h1,RAs.mono hm hF ps cs h2⟩
 | .pt id off,y,h=>by
  simp only[RA] at h⊢;obtain⟨b,h1,h2⟩:=h;exact⟨b,hm.blk h1,h2⟩
 | .sr id off len cap,y,h=>by
  simp only[RA] at h⊢;obtain⟨b,h1,h2⟩:=h;exact⟨b,hm.blk h1,h2⟩
 | .fn f first caps,y,h=>by
  simp only[RA] at h⊢;obtain⟨fs,cs,h1,h2,h3⟩:=h;exact⟨fs,cs,h1,RAs.mono hm hF first fs h2,RAs.mono hm hF caps cs h3⟩
 | .mp id,y,h=>by
  simp only[RA] at h⊢;obtain⟨b,h1,h2⟩:=h;exact⟨b,hm.blk h1,h2⟩
 | .tu l,y,h=>by
  simp only[RA] at h⊢;obtain⟨cs,h1,h2⟩:=h;exact⟨cs,h1,RAs.mono hm hF l cs h2⟩
 | .os id ver,y,h=>by
  simp only[RA] at h⊢;obtain⟨v0,y0,h2,h3,h4⟩:=h;obtain⟨c',g1,g2⟩:=hm id _ h2;simp only[Cz.le] at g2;rcases g2 with rfl|⟨v',y',rfl,g2⟩
  exact⟨v0,y0,g1,h3,h4⟩;exact⟨v',y',g1,oM,λh=>oM⟩
 | .pe id ver off,y,h=>by
  simp only[RA] at h⊢;obtain⟨v0,y0,h2,h3,h4⟩:=h;obtain⟨c',g1,g2⟩:=hm id _ h2;simp only[Cz.le] at g2;rcases g2 with rfl|⟨v',y',rfl,g2⟩
  exact⟨v0,y0,g1,h3,h4⟩;exact⟨v',y',g1,oM,λh=>oM⟩
 | .ow id ver off len lo,y,h=>by
  simp only[RA] at h⊢;obtain⟨v0,y0,h2,h3,h4⟩:=h;obtain⟨c',g1,g2⟩:=hm id _ h2;simp only[Cz.le] at g2;rcases g2 with rfl|⟨v',y',rfl,g2⟩
  exact⟨v0,y0,g1,h3,h4⟩;exact⟨v',y',g1,oM,λh=>oM⟩
 | .fs es,y,h=>by
  simp only[RA] at h⊢;exact⟨RD.mono hF _ y h.1,h.2⟩
 | .ifc t x,y,h=>by
  simp only[RA] at h⊢;obtain⟨z,h1,h2⟩:=h;exact⟨z,h1,RA.mono hm hF x z h2⟩
 | .osf id j ver,y,h=>by
  simp only[RA] at h⊢;obtain⟨v0,y0,h2,h3,h4⟩:=h;obtain⟨c',g1,g2⟩:=hm id _ h2;simp only[Cz.le] at g2;rcases g2 with rfl|⟨v',y',rfl,g2⟩
  exact⟨v0,y0,g1,h3,h4⟩;exact⟨v',y',g1,oM,λh=>oM⟩
 | .pem id j ver off,y,h=>by
  simp only[RA] at h⊢;obtain⟨v0,y0,h2,h3,h4⟩:=h;obtain⟨c',g1,g2⟩:=hm id _ h2;simp only[Cz.le] at g2;rcases g2 with rfl|⟨v',y',rfl,g2⟩
  exact⟨v0,y0,g1,h3,h4⟩;exact⟨v',y',g1,oM,λh=>oM⟩
 | .yl id,y,h=>by
  simp only[RA] at h⊢;obtain⟨b,h1,h2⟩:=h;exact⟨b,hm.blk h1,h2⟩
 | .kv v x,y,h=>by
  simp only[RA] at h⊢;exact⟨h.1,RD.mono hF x y h.2⟩
theorem RAs.mono{m m':List Cz}{φ φ':Nat->Nat}{w w':World}(hm:Pre m m')(hF:Fz φ w φ' w'):∀(ps:List AV)(cs:List Value),RAs m φ w ps cs->RAs m' φ' w' ps cs
 |[],cs,h=>by simpa[RAs] using h
 |p::ps,cs,h=>by
  simp only[RAs] at h⊢;obtain⟨c,cs',h1,h2,h3⟩:=h;exact⟨c,cs',h1,RA.mono hm hF p c h2,RAs.mono hm hF ps cs' h3⟩
end
structure LpS where
 n:Nat
 ts:List Nat
 ps:List Nat
 asg:Code
 body:Code
inductive AO where
 |row(T:TypeId)(cs:List AV)
 |os(T:TypeId)(k ver:Nat)(es:List (List AV))
 |mp(es:List (Value×AV))
 |fam(T:TypeId)(k ver:Nat)(ess:List (List (List AV)))
 |si(s:ByteArray)(pos:Nat)
 |mb(es:List (Value×Nat))(xs:List AV)(clock:Nat)
 |it(src:AV)(since:Nat)(seen:List Nat)(stp:Nat)
 |lp(s:LpS)(vs:List AV)(stt:LoopState)(pend:Option Code)
 |rsv
 |dead
 deriving Inhabited
def AO.live:AO->Bool| .dead=>false| .rsv=>false|_=>true
def Born(l:List MapEntry)(cl:Nat):Prop:=cl=l.length/\l.map (·.born)=List.range l.length
theorem Born.nil:Born [] 0:=⟨rfl,rfl⟩
theorem Born.push{l:List MapEntry}{cl:Nat}(h:Born l cl)(k v:Value):Born (l++ [⟨k,v,cl⟩]) (cl+1):=by refine⟨by rw[List.length_append,h.1];rfl,?_⟩;rw[List.map_append,h.2,List.length_append,h.1];exact List.range_succ.symm
theorem Born.modify{l:List MapEntry}{cl:Nat}(h:Born l cl)(j:Nat)(k v:Value):Born (l.modify j (λe=>{ e with key:=k,val:=v })) cl:=by refine⟨by rw[List.length_modify];exact h.1,?_⟩;rw[List.length_modify,<-h.2];apply List.ext_getElem?;intro i;rw[List.getElem?_map,List.getElem?_map,List.getElem?_modify];by_cases hij:j=i;subst hij;cases l[j]? <;>simp;simp[hij]
def OR(m:List Cz)(φ:Nat->Nat)(w:World):AO->Cz->Prop
 | .row T cs,c=>∃b,c= .blk b/\φ b=0/\∃vs,w.heap[b]? =some (.cells ⟨vs⟩ T (0,0))/\RAs m φ w cs vs
 | .os T k ver es,c=>∃y xs,c= .tok ver y/\w.ownsRow 0 T k y es.length xs/\RAs m φ w es.flatten xs/\(∀e∈es,e.length=k)/\∀b,y.ownBlock=some b->φ b=0
 | .mp es,c=>∃b,c= .blk b/\φ b=0/\∃l clock,w.heap[b]? =some (.map ⟨l⟩ clock)/\l.map (·.key)=es.map (·.1)/\RAs m φ w (es.map (·.2)) (l.map (·.val))/\Born l clock
 | .fam T k ver ess,c=>∃ys,c= .fam ver ys/\ys.length=ess.length/\
   (∀(j:Nat)(es:List (List AV))(y:Value),ess[j]? =some es->ys[j]? =some y->∃xs,w.ownsRow 0 T k y es.length xs/\RAs m φ w es.flatten xs/\(∀e∈es,e.length=k)/\∀b,y.ownBlock=some b->φ b=0)/\
   ∀(i j:Nat)(y y':Value)(b:Nat),ys[i]? =some y->ys[j]? =some y'->y.ownBlock=some b->y'.ownBlock=some b->i=j
 | .si s pos,c=>∃b,c= .blk b/\φ b=0/\w.heap[b]? =some (.stringIter s pos)
 | .mb es xs clock,c=>∃b,c= .blk b/\φ b=0/\∃l,w.heap[b]? =some (.map ⟨l⟩ clock)/\l.map (λe=>(e.key,e.born))=es/\RAs m φ w xs (l.map (·.val))
 | .it src since seen stp,c=>∃b,c= .blk b/\φ b=0/\∃sb,w.heap[b]? =some (.mapIter sb since ⟨seen⟩ stp)/\RA m φ w src (.map sb)
 | .lp s vs stt pend,c=>∃b,c= .blk b/\φ b=0/\∃r us,w.heap[b]? =some (.loop r)/\(r.tmps.size=s.n/\r.params=s.ps.toArray/\r.assign=s.asg/\r.body=s.body/\r.state=stt/\r.pending=pend/\∀(i t:Nat)(u:Value),s.ts[i]? =some t->us[i]? =some u->r.tmps[t]? =some u)/\RAs m φ w vs us
 | .rsv,c=>c= .non
 | .dead,_=>True
def In(m:List Cz)(b:Nat):Prop:=∃(i:Nat)(c:Cz),m[i]? =some c/\c.has b
structure SR(m:List Cz)(φ:Nat->Nat)(st:List AO)(w:World):Prop where
 len:m.length=st.length
 obj:∀(i:Nat)(o:AO)(c:Cz),st[i]? =some o->m[i]? =some c->OR m φ w o c
 lt:∀b,w.heap.size<=b->φ b=0
 inj:∀(i j:Nat)(o o':AO)(c c':Cz)(b:Nat),st[i]? =some o->st[j]? =some o'->o.live=true->o'.live=true->m[i]? =some c->m[j]? =some c'->c.has b->c'.has b->i=j
 gl:Gl φ w
 nb:∀b,In m b->b<w.heap.size
abbrev Env:=List (Nat×AV)
def Env.get:Env->Nat->Option AV
 |[],_=>none
 |(k,v)::r,t=>bif Nat.beq t k then some v else Env.get r t
def eO:Value->AV
 | .agg cs=> .d (.ag (cs.toList.map D.v))
 |x=> .d (.v x)
def opv(env:Env):Operand->Option AV
 | .tmp t=>env.get t
 | .const v=>some (eO v)
 | .func f=>some (.fn (.func f) [] [])
 | .global g=>(gpc g).map λps=> .d (.pc ps)
structure EnvOk(m:List Cz)(φ:Nat->Nat)(w:World)(env:Env)(a:Act):Prop where
 get:∀t x,env.get t=some x->∃v,a.tmps[t]? =some v/\RA m φ w x v
 gl:Gl φ w
instance{m φ w env a}:CoeFun (EnvOk m φ w env a) (λ_=>∀t x,env.get t=some x->∃v,a.tmps[t]? =some v/\RA m φ w x v):=⟨EnvOk.get⟩
theorem EnvOk.mono{m m':List Cz}{φ φ':Nat->Nat}{w w':World}{env:Env}{a:Act}(h:EnvOk m φ w env a)
  (hm:Pre m m')(hF:Fz φ w φ' w'):EnvOk m' φ' w' env a:=
 ⟨λt x hx=>let ⟨v,h1,h2⟩:=h t x hx;⟨v,h1,RA.mono hm hF x v h2⟩,h.gl.mono hF⟩
theorem bB{m φ w}:RAs m φ w [] []:=by simp[RAs]
theorem aC{m φ w}{p:AV}{ps:List AV}{c:Value}{cs:List Value}(h:RA m φ w p c)(k:RAs m φ w ps cs):RAs m φ w (p::ps) (c::cs):=by simp only[RAs];exact⟨c,cs,rfl,h,k⟩
theorem gS{φ w}:∀cs:List Value,RFs φ w (cs.map D.v) cs
 |[]=>by simp[RFs]
 |c::cs=>by
  simp only[List.map_cons,RFs];exact⟨c,cs,rfl,by simp[RD],gS cs⟩
theorem lE{m φ w}(v:Value):RA m φ w (eO v) v:=by unfold eO;split;rename_i cs;simp only[RA,RD];exact⟨cs.toList,rfl,gS _⟩;simp[RA,RD]
theorem bc{m φ w}{env:Env}{a:Act}{x:Operand}{r:AV}(h:EnvOk m φ w env a)(hx:opv env x=some r):RA m φ w r (a.eval x):=by
 cases x with
 |tmp t=>obtain⟨v,h1,h2⟩:=h t r hx;simpa[Act.eval,Array.getD_eq_getD_getElem?,h1] using h2
 |const v=>simp only[opv,ao] at hx;subst hx;exact lE v
 |func f=>simp only[opv,ao] at hx;subst hx;simp only[RA,Act.eval];exact⟨[],[],rfl,bB,bB⟩
 |global g=>simp only[opv,Option.map_eq_some_iff] at hx;obtain⟨ps,h1,rfl⟩:=hx;simp only[RA,RD,Act.eval];exact⟨g,0,rfl,h.gl g ps h1⟩
end Go.Sk
namespace Go.Sk
open Go.RowKit (Below)
def EF(r:Option Nat):Fence:={ fn:=λ_=>True,depth:=none,alive:=false,round:=r }
theorem hZ{r:Option Nat}{n:Nat}{P:Program}{f:FuncId}{args:Array Value}{w:World}{R:Ending->World->Prop}:CallsIn (EF r) n P f args w R↔Calls P f args w R:=
 (show CallsIn (EF r) n P f args w R↔CallsIn Fence.wide n P f args w R from Iff.rfl).trans callsIn_wide
theorem o7{n:Nat}{P:Program}{f:FuncId}{args:Array Value}{w:World}{R:Ending->World->Prop}(h:CallsIn (EF none) n P f args w R):Calls P f args w R:=hZ.1 h
def cv:List Oper->Bool
 |[]=>true
 |o::l=>(match o.op with| .defer _=>false|_=>true)&&cv l
theorem eJ:∀{l:List Oper}{i:Nat}{o:Oper},cv l=true->l[i]? =some o->∀c,o.op≠ .defer c
 |[],i,o,_,h=>by simp at h
 |x::l,i,o,hn,h=>by
  simp only[cv,Bool.and_eq_true] at hn;cases i with
  |zero=>simp only[List.getElem?_cons_zero,ao] at h;subst h;intro c hc;simp[hc] at hn
  |succ i=>exact eJ hn.2 (by simpa using h)
theorem mg{r:Option Nat}{ρ:Operand->Value}{o:Oper}(h:∀c,o.op≠ .defer c):Oper.semAt r ρ o=execOp ρ o:=by
 cases r with
 |none=>rfl
 |some l=>exact Oper.semAt_some l ρ o h
def Rnd(P:Program)(o:Oper)(a:Act)(w:World)(next:Act->World->Prop):Prop:=
 ∃(l:Nat)(f:FuncId)(tmps:Array Value)(asg body:Code)(w':World),(execOp a.eval o).run P w= .ok (.round l f tmps asg body) w'/\
  RoundIn Fence.wide 0 P l f tmps asg body w' λen w''=>∃v,en= .returned v/\next (a.put o.dst v) w''
def d5(P:Program)(ops:Array Oper)(Q:Exit->Act->World->Prop):List Oper->Act->World->Prop
 |[],a,w=>Q .normal a w
 |o::rest,a,w=>
  if Region.wanted o (yielded ops a.tmps) then o.wp P a w (d5 P ops Q rest) Q\/Rnd P o a w (d5 P ops Q rest) else d5 P ops Q rest (a.put o.dst undef) w
theorem pO{r:Option Nat}{n k:Nat}{P:Program}{l:Nat}{f:FuncId}{tmps:Array Value}{asg body:Code}{w:World}{R:Ending->World->Prop}(h:RoundIn Fence.wide k P l f tmps asg body w R):RoundIn (EF r) n P l f tmps asg body w R:=
 ⟨trivial,λc cs _=>h.2 c cs (room_wide _)⟩
theorem hM{r:Option Nat}{n:Nat}{P:Program}{o:Oper}{a:Act}{w:World}{K:Act->World->Prop}{Q:Exit->Act->World->Prop}(hd:∀c,o.op≠ .defer c)(h:o.wp P a w K Q):o.wpIn (EF r) n P a w K Q:=by
 refine⟨λ_ _=>trivial,?_⟩;rw[mg hd];unfold Oper.wp at h;generalize(execOp a.eval o).run P w=x at h⊢;cases x with
 |ok nx w'=>
  cases nx with
  |value v=>exact h
  |skip=>exact h
  |defer d=>exact h
  |enter f args=>exact⟨λhx=>by simp[EF] at hx,hZ.2 h⟩
  |row rw args=>exact⟨λhx=>by simp[EF] at hx,λc cs _=>by
    obtain⟨v,w2,h1,h2⟩:=h c cs;exact⟨v,w2,h1,stepsIn_wide.2 h2⟩⟩
  |_=>exact h.elim
 |halt hh w'=>cases hh<;>first|exact h|exact h.elim
theorem jJ{r:Option Nat}{n:Nat}{P:Program}{o:Oper}{a:Act}{w:World}{K:Act->World->Prop}{Q:Exit->Act->World->Prop}(hd:∀c,o.op≠ .defer c)(h:Rnd P o a w K):o.wpIn (EF r) n P a w K Q:=by obtain⟨l,f,tmps,asg,body,w',h1,h2⟩:=h;refine⟨λ_ _=>trivial,?_⟩;rw[mg hd,h1];refine⟨λhx=>by simp[EF] at hx,(pO h2).mono ?_⟩;rintro en w'' ⟨v,rfl,hk⟩;exact hk
theorem iw{r:Option Nat}{P:Program}{ops:Array Oper}{Q:Exit->Act->World->Prop}:∀(l:List Oper),cv l=true->∀(a:Act)(w:World),d5 P ops Q l a w->wpListIn (EF r) 0 P ops Q l a w
 |[],_,a,w,h=>h
 |o::l,hn,a,w,h=>by
  have hd:=eJ (l:=o::l) (i:=0) (o:=o) hn rfl;have ih:=iw (r:=r) (P:=P) (ops:=ops) (Q:=Q) l (by simp only[cv,Bool.and_eq_true] at hn;exact hn.2);unfold d5 at h;unfold wpListIn;split;rename_i hw;rw[if_pos hw] at h;rcases h with h|h
  exact Oper.wpIn_mono ih (hM hd h);exact Oper.wpIn_mono ih (jJ hd h);rename_i hw;rw[if_neg hw] at h;exact⟨λ_ _=>trivial,ih _ _ h⟩
theorem iu{r:Option Nat}{P:Program}{ops:List Oper}{Q:Exit->Act->World->Prop}(hQ:∀a w,¬Q .outgrown a w)(hn:cv ops=true):∀(l:List Nat)(a:Act)(w:World),wpOps P ops.toArray Q l a w->wpOpsIn (EF r) 0 P ops.toArray Q l a w
 |[],a,w,h=>h
 |i::l,a,w,h=>by
  have ih:=iu (r:=r) (P:=P) hQ hn l;rw[wpOps_cons] at h;rw[wpOpsIn_cons];unfold wpOp at h;unfold wpOpIn;cases ho:ops.toArray[i]? with
  |none=>simp only[ho] at h⊢;exact ih _ _ h
  |some o=>
   simp only[ho] at h⊢;have hd:=eJ hn (by simpa using ho);split;rename_i hw;rw[if_pos hw] at h;rcases h with h|⟨_,a0,w0,h⟩
   exact Oper.wpIn_mono ih (hM hd h);exact absurd h (hQ _ _);rename_i hw;rw[if_neg hw] at h;exact⟨λ_ _=>trivial,ih _ _ h⟩
theorem gX{r:Option Nat}{P:Program}{ops:List Oper}{C:World->Prop}{id:Nat}{Q:Exit->Act->World->Prop}{a:Act}{w:World}(hQ:∀a w,¬Q .outgrown a w)(hn:cv ops=true)(hm:P.follows .mixedOrders=true)(hB:Region.lexB .any ops.toArray=true)(hC:C { w with drawn:=w.drawn+1 })
  (h:wpQuiet P ops.toArray C (λa'=>∀w',C w'->Q .normal a' w') ops a):(Code.region id ops.toArray true).wpIn (EF r) 0 P Q a w:=by
 simp only[Region.lexB,Bool.and_eq_true] at hB;refine wpIn_region_draw λt=>?_;simp only[Region.schedule,hm,Bool.true_or,if_true];refine iu hQ hn _ _ _ (wpAny_sound ops.toArray.size t _ a _ ?_);refine wpAny_of_quiet (Q:=λa'=>∀w',C w'->Q .normal a' w') (λ_ w' hw' h=>h w' hw') _ _ _ _ hC ?_;have:=wpAnyQ_lex (C:=C) (md:= .any) hB.1 ops 0 (Array.replicate ops.toArray.size false) a sM (by simpa using hB.2) h;simpa using this
theorem jP{F:Fence}{n:Nat}{P:Program}{c:Code}{Q:Exit->Act->World->Prop}{a:Act}{w:World}{ι:Type}(I:ι->Act->World->Prop)(μ:ι->Nat)(x0:ι)(h₀:I x0 a w)
  (round:∀x a w,I x a w->c.wpIn F n P (Exit.then (λa' w'=>∃y,I y a' w'/\μ y<μ x) Q) a w):(Code.loop c).wpIn F n P Q a w:=by
 have key:∀k x a w,μ x<k->I x a w->Code.roundsIn F n P c Q k a w:=by
  intro k;induction k with
  |zero=>intro x a w h;omega
  |succ k ih=>
   intro x a w hk hI;rw[roundsIn_succ];refine wpIn_mono (round x a w hI) ?_;intro ex a' w' hq;cases ex with
   |normal=>obtain⟨y,hy,hlt⟩:=hq;exact ih y a' w' oM hy
   |_=>exact hq
 exact wpIn_loop_rounds _ (key (μ x0+1) x0 a w (Nat.lt_succ_self _) h₀)
end Go.Sk
namespace Go.Sk
open Go.RowKit (Below)
structure Ev(m:List Cz)(φ:Nat->Nat)(w:World)(m':List Cz)(φ':Nat->Nat)(w':World):Prop where
 pre:Pre m m'
 new:∀b,In m' b->In m b\/w.heap.size<=b
 os:w'.os=w.os
 tape:w'.tape=w.tape
 output:w'.output=w.output
 size:w.heap.size<=w'.heap.size
 keep:∀b,b<w.heap.size->¬In m b->w'.heap[b]? =w.heap[b]?/\φ' b=φ b
 fz:Fz φ w φ' w'
theorem Ev.refl(m:List Cz)(φ:Nat->Nat)(w:World):Ev m φ w m φ w:=
 ⟨Pre.refl m,λ_ h=> .inl h,rfl,rfl,rfl,Nat.le_refl _,λ_ _ _=>⟨rfl,rfl⟩,Fz.refl φ w⟩
theorem Ev.trans{m m' m'':List Cz}{φ φ' φ'':Nat->Nat}{w w' w'':World}(h:Ev m φ w m' φ' w')(k:Ev m' φ' w' m'' φ'' w''):Ev m φ w m'' φ'' w'' where
 pre:=h.pre.trans k.pre
 new b hb:=by
  rcases k.new b hb with h1|h1
  exact h.new b h1;exact .inr (Nat.le_trans h.size h1)
 os:=k.os.trans h.os
 tape:=k.tape.trans h.tape
 output:=k.output.trans h.output
 size:=Nat.le_trans h.size k.size
 keep b hb hn:=by
  have h1:=h.keep b hb hn;have hn':¬In m' b:=λhb'=>by
   rcases h.new b hb' with h2|h2
   exact hn h2;omega
  have h2:=k.keep b (Nat.lt_of_lt_of_le hb h.size) hn';exact⟨h2.1.trans h1.1,h2.2.trans h1.2⟩
 fz:=h.fz.trans k.fz
theorem dy{w w':World}{b:Nat}(h:w'.heap[b]? =w.heap[b]?)(off:Nat):w'.cell? ⟨b,off,none⟩=w.cell? ⟨b,off,none⟩:=by unfold World.cell?;simp only[h]
theorem Fz.of_below{m:List Cz}{φ:Nat->Nat}{st:List AO}{w w':World}(hs:SR m φ st w)(hb:Below w.heap.size w w'):Fz φ w φ w':=by
 intro b off c h1 h2;refine⟨h1,?_⟩;have hlt:b<w.heap.size:=by
  rcases Nat.lt_or_ge b w.heap.size with h|h
  exact h;have:=hs.lt b h;omega
 rw[cu (hb.block b hlt) off];exact h2
theorem OR.congr{m m':List Cz}{φ φ':Nat->Nat}{w w':World}{c:Cz}{o:AO}(h:OR m φ w o c)(hm:Pre m m')(hF:Fz φ w φ' w')(hb:∀b,c.has b->w'.heap[b]? =w.heap[b]?/\φ' b=φ b):OR m' φ' w' o c:=by
 cases o with
 |row T cs=>obtain⟨b,rfl,h0,vs,h1,h2⟩:=h;have:=hb b rfl;exact⟨b,rfl,this.2.trans h0,vs,this.1.trans h1,RAs.mono hm hF cs vs h2⟩
 |os T k ver es=>
  obtain⟨y,xs,rfl,h1,h2,h3,h4⟩:=h;refine⟨y,xs,rfl,⟨h1.1,?_⟩,RAs.mono hm hF _ _ h2,h3,λb hy=>(hb b hy).2.trans (h4 b hy)⟩;rcases h1.2 with g|⟨g,cap,cur,rfl,g1,g2,g3⟩
  exact .inl g;exact .inr ⟨g,cap,cur,rfl,g1,(hb g rfl).1.trans g2,g3⟩
 |mp es=>obtain⟨b,rfl,h0,l,cl,h1,h2,h3,h4⟩:=h;have:=hb b rfl;exact⟨b,rfl,this.2.trans h0,l,cl,this.1.trans h1,h2,RAs.mono hm hF _ _ h3,h4⟩
 |fam T k ver ess=>
  obtain⟨ys,rfl,h1,h2,h3⟩:=h;refine⟨ys,rfl,h1,λj es y hj hy=>?_,h3⟩;obtain⟨xs,g1,g2,g3,g4⟩:=h2 j es y hj hy;have hh:∀b,y.ownBlock=some b->w'.heap[b]? =w.heap[b]?/\φ' b=φ b:=λb hy'=>hb b ⟨y,List.mem_of_getElem? hy,hy'⟩;refine⟨xs,⟨g1.1,?_⟩,RAs.mono hm hF _ _ g2,g3,λb hy'=>(hh b hy').2.trans (g4 b hy')⟩;rcases g1.2 with g|⟨g,cap,cur,rfl,q1,q2,q3⟩
  exact .inl g;exact .inr ⟨g,cap,cur,rfl,q1,(hh g rfl).1.trans q2,q3⟩
 |si s pos=>obtain⟨b,rfl,h0,h1⟩:=h;have:=hb b rfl;exact⟨b,rfl,this.2.trans h0,this.1.trans h1⟩
 |mb es xs cl=>obtain⟨b,rfl,h0,l,h1,h2,h3⟩:=h;have:=hb b rfl;exact⟨b,rfl,this.2.trans h0,l,this.1.trans h1,h2,RAs.mono hm hF _ _ h3⟩
 |it src since seen stp=>obtain⟨b,rfl,h0,sb,h1,h2⟩:=h;have:=hb b rfl;exact⟨b,rfl,this.2.trans h0,sb,this.1.trans h1,RA.mono hm hF _ _ h2⟩
 |lp s vs a b=>obtain⟨b,rfl,h0,r,us,h1,h2,h3⟩:=h;have:=hb b rfl;exact⟨b,rfl,this.2.trans h0,r,us,this.1.trans h1,h2,RAs.mono hm hF vs us h3⟩
 |rsv=>exact h
 |dead=>trivial
theorem bK{w:World}{b:Nat}{o:Obj}(h:w.heap[b]? =some o):b<w.heap.size:=by
 rcases Nat.lt_or_ge b w.heap.size with h'|h'
 exact h';simp[Array.getElem?_eq_none h'] at h
theorem OR.block_lt{m:List Cz}{φ:Nat->Nat}{w:World}{c:Cz}{o:AO}(h:OR m φ w o c)(hl:o.live=true){b:Nat}(hb:c.has b):b<w.heap.size:=by
 cases o with
 |row T cs=>obtain⟨b',rfl,_,vs,h1,_⟩:=h;simp only[Cz.has] at hb;subst hb;exact bK h1
 |os T k ver es=>obtain⟨y,xs,rfl,h1,_⟩:=h;exact(h1.lt b hb).2
 |mp es=>obtain⟨b',rfl,_,l,c,h1,_⟩:=h;simp only[Cz.has] at hb;subst hb;exact bK h1
 |fam T k ver ess=>
  obtain⟨ys,rfl,h1,h2,_⟩:=h;obtain⟨y,hy,hyb⟩:=hb;obtain⟨j,hj⟩:=List.mem_iff_getElem?.1 hy;have hlt:j<ess.length:=by rw[<-h1];exact(giS.1 hj).1
  obtain⟨xs,g1,_⟩:=h2 j _ y (geG hlt) hj;exact(g1.lt b hyb).2
 |si s pos=>obtain⟨b',rfl,_,h1⟩:=h;simp only[Cz.has] at hb;subst hb;exact bK h1
 |mb es xs cl=>obtain⟨b',rfl,_,l,h1,_⟩:=h;simp only[Cz.has] at hb;subst hb;exact bK h1
 |it src since seen stp=>obtain⟨b',rfl,_,sb,h1,_⟩:=h;simp only[Cz.has] at hb;subst hb;exact bK h1
 |lp s vs st pd=>obtain⟨b',rfl,_,r,us,h1,_⟩:=h;simp only[Cz.has] at hb;subst hb;exact bK h1
 |rsv=>simp[AO.live] at hl
 |dead=>simp[AO.live] at hl
theorem pT{w w':World}{b:Nat}(h:b<w.heap.size)(hk:w'.heap[b]? =w.heap[b]?):b<w'.heap.size:=bK (o:=w.heap[b]) (hk.trans (Array.getElem?_eq_getElem h))
theorem SR.of_keep{m:List Cz}{φ φ':Nat->Nat}{st:List AO}{w w':World}(hs:SR m φ st w)(hk:∀b,b<w.heap.size->w'.heap[b]? =w.heap[b]?/\φ' b=φ b)
  (hF:Fz φ w φ' w')(hlt:∀b,w'.heap.size<=b->φ' b=0):SR m φ' st w' where
 len:=hs.len
 obj i o c h1 h2:=by
  have h:=hs.obj i o c h1 h2;cases hl:o.live with
  |true=>exact h.congr (Pre.refl m) hF (λb hb=>hk b (h.block_lt hl hb))
  |false=>cases o<;>first|trivial|exact h|(simp[AO.live] at hl;done)
 lt:=hlt
 inj:=hs.inj
 gl:=hs.gl.mono hF
 nb b hb:=pT (hs.nb b hb) (hk b (hs.nb b hb)).1
theorem SR.of_below{m:List Cz}{φ:Nat->Nat}{st:List AO}{w w':World}(hs:SR m φ st w)(hb:Below w.heap.size w w'):SR m φ st w':=
 hs.of_keep (λb h=>⟨hb.block b h,rfl⟩) (Fz.of_below hs hb) (λb h=>hs.lt b (Nat.le_trans hb.size h))
theorem Ev.of_below{m:List Cz}{φ:Nat->Nat}{st:List AO}{w w':World}(hs:SR m φ st w)(hb:Below w.heap.size w w'):Ev m φ w m φ w':=
 ⟨Pre.refl m,λ_ h=> .inl h,hb.os,hb.tape,hb.output,hb.size,λb h _=>⟨hb.block b h,rfl⟩,Fz.of_below hs hb⟩
theorem SR.nil{m:List Cz}{φ:Nat->Nat}{st:List AO}{w:World}(hs:SR m φ st w):SR [] φ [] w:=
 ⟨rfl,λi o c h=>by simp at h,hs.lt,λi j o o' c c' b h=>by simp at h,hs.gl,λb ⟨i,c,h,_⟩=>by simp at h⟩
def eU(P:Program)(f:FuncId):Prop:=∃fn,P.funcs[f]? =some fn/\(fn.name== "runtime.NumGoroutine")=false/\fn.body.isNone=false
def Ctr(P:Program)(f:FuncId)(asz:List AV)(st:List AO)(Q:AV->List AO->Prop):Prop:=
 eU P f/\∀m φ w vs,SR m φ st w->RAs m φ w asz vs->Calls P f ⟨vs⟩ w λen w'=>
  ∃v r st' m' φ',en= .returned v/\Q r st'/\Ev m φ w m' φ' w'/\SR m' φ' st' w'/\RA m' φ' w' r v
def Pu(P:Program)(f:FuncId)(asz:List D)(r:D):Prop:=Ctr P f (asz.map .d) [] λr' st'=>r'= .d r/\st'=[]
structure En where
 m:List Cz
 φ:Nat->Nat
 w:World
 n:Nat
 rd:Option Nat
 ds:Option (List Deferred)
def Marks(n0:Nat)(m:List Cz)(w:World):List Deferred->Prop
 |[]=>True
 |d::ds=>(∃r,d.target= .collected r/\w.heap[r]? =some (.deferred (some []))/\¬In m r/\n0<=r/\∀d'∈ds,d'.target≠ .collected r)/\Marks n0 m w ds
theorem Marks.mono{n0:Nat}{m m':List Cz}{w w':World}(h:∀r,¬In m r->r<w.heap.size->¬In m' r/\w'.heap[r]? =w.heap[r]?):∀{ds:List Deferred},Marks n0 m w ds->Marks n0 m' w' ds
 |[],_=>trivial
 |d::ds,hm=>by
  obtain⟨⟨r,h1,h2,h3,h4,h5⟩,h6⟩:=hm;have:=h r h3 (bK h2);exact⟨⟨r,h1,this.2.trans h2,this.1,h4,h5⟩,Marks.mono h h6⟩
theorem Marks.ev{n0:Nat}{m m':List Cz}{φ φ':Nat->Nat}{w w':World}{ds:List Deferred}(hm:Marks n0 m w ds)(h:Ev m φ w m' φ' w'):Marks n0 m' w' ds:=
 hm.mono λr hr hlt=>⟨λhr'=>(h.new r hr').elim hr (λh2=>absurd hlt (Nat.not_lt.2 h2)),(h.keep r hlt hr).1⟩
def Dfs(n0:Nat)(m:List Cz)(w:World)(b:Option (List Deferred))(ds:List Deferred):Prop:=match b with
 |none=>Marks n0 m w ds
 |some b=>ds=b
theorem Dfs.mono{n0:Nat}{m m':List Cz}{w w':World}{b:Option (List Deferred)}{ds:List Deferred}(hm:Dfs n0 m w b ds)(h:∀r,¬In m r->r<w.heap.size->¬In m' r/\w'.heap[r]? =w.heap[r]?):Dfs n0 m' w' b ds:=by
 cases b with
 |none=>exact Marks.mono h hm
 |some b=>exact hm
theorem Dfs.ev{n0:Nat}{m m':List Cz}{φ φ':Nat->Nat}{w w':World}{b:Option (List Deferred)}{ds:List Deferred}(hm:Dfs n0 m w b ds)(h:Ev m φ w m' φ' w'):Dfs n0 m' w' b ds:=by
 cases b with
 |none=>exact Marks.ev hm h
 |some b=>exact hm
theorem Dfs.marks{n0:Nat}{m:List Cz}{w:World}{ds:List Deferred}(hm:Dfs n0 m w none ds):Marks n0 m w ds:=hm
def En.nd(e:En):Bool:=match e.ds with
 |none=>true
 |some l=>l.isEmpty
theorem Dfs.marks'{e:En}{n0:Nat}{m:List Cz}{w:World}{ds:List Deferred}(hm:Dfs n0 m w e.ds ds)(h:e.nd=true):Marks n0 m w ds:=by
 obtain⟨m1,φ1,w1,n1,rd,d⟩:=e;cases d with
 |none=>exact hm
 |some l=>
  cases l with
  |nil=>have:ds=[]:=hm;subst this;trivial
  |cons a b=>simp[En.nd] at h
structure Inv(e:En)(m:List Cz)(φ:Nat->Nat)(env:Env)(st:List AO)(a:Act)(w:World):Prop where
 sr:SR m φ st w
 ev:Ev e.m e.φ e.w m φ w
 env:EnvOk m φ w env a
 sz:a.tmps.size=e.n
 df:Dfs e.w.heap.size m w e.ds a.defers
def c8(e:En)(Q:AV->List AO->Prop)(en:Ending)(w':World):Prop:=
 ∃v r st' m' φ',en= .returned v/\Q r st'/\Ev e.m e.φ e.w m' φ' w'/\SR m' φ' st' w'/\RA m' φ' w' r v
def s7(e:En)(Q:AV->List AO->Prop)(QP:List PanicEntry->List AO->Prop)(en:Ending)(w':World):Prop:=
 c8 e Q en w'\/∃c st' m' φ',en= .panicked c/\QP c st'/\Ev e.m e.φ e.w m' φ' w'/\SR m' φ' st' w'
inductive Ko where
 |fin(fn:Func)(Q:AV->List AO->Prop)
 |finP(fn:Func)(Q:AV->List AO->Prop)(QP:List PanicEntry->List AO->Prop)
 |seq(c:Code)(k:Ko)
 |blk(id:Nat)(k:Ko)
 |lp(J:Env->List AO->Prop)(k:Ko)
 |rend(Q:AV->List AO->Prop)
 |asg(body:Code)(k:Ko)
 |rl(n:Nat)(c:Code)(k:Ko)
def Ko.den(P:Program)(e:En):Ko->Exit->Act->World->Prop
 | .fin fn Q=>bodyPostM (EF e.rd) 0 P fn (c8 e Q)
 | .finP fn Q QP=>bodyPostM (EF e.rd) 0 P fn (s7 e Q QP)
 | .seq c k=>Exit.then (c.wpIn (EF e.rd) 0 P (k.den P e)) (k.den P e)
 | .blk id k=>Exit.inBlock id (k.den P e)
 | .lp J k=>Exit.then (λa w=>∃env st m φ,J env st/\Inv e m φ env st a w) (k.den P e)
 | .rend Q=>match e.rd with|some l=>roundPost P l (c8 e Q)|none=>λ_ _ _=>False
 | .asg body k=>Exit.then (λa w=>match e.rd with|some l=>∃w₂,(Instr.beginRound l).run P w= .ok () w₂/\body.wpIn (EF e.rd) 0 P (k.den P e) a w₂|none=>False) (λ_ _ _=>False)
 | .rl n c k=>Exit.then (Code.roundsIn (EF e.rd) 0 P c (k.den P e) n) (k.den P e)
theorem eE{P:Program}{e:En}:∀(k:Ko)(a:Act)(w:World),¬k.den P e .outgrown a w
 | .fin fn Q,a,w,h=>by obtain⟨v,r,st,m,φ,h,_⟩:=h;cases h
 | .finP fn Q QP,a,w,h=>by
  rcases h with⟨v,r,st,m,φ,h,_⟩|⟨c,st,m,φ,h,_⟩<;>cases h
 | .seq c k,a,w,h=>eE k a w h
 | .blk id k,a,w,h=>eE k a w h
 | .lp J k,a,w,h=>eE k a w h
 | .rend Q,a,w,h=>by
  obtain⟨m,φ,w0,n,rd,ds⟩:=e;cases rd<;>exact h
 | .asg b k,a,w,h=>h
 | .rl n c k,a,w,h=>eE k a w h
def WC(P:Program)(e:En)(c:Code)(k:Ko)(env:Env)(st:List AO):Prop:=
 ∀m φ a w,Inv e m φ env st a w->c.wpIn (EF e.rd) 0 P (k.den P e) a w
def WE(P:Program)(e:En)(x:Exit)(k:Ko)(env:Env)(st:List AO):Prop:=
 ∀m φ a w,Inv e m φ env st a w->k.den P e x a w
def sk(e:En)(R:Env->List AO->Prop)(x:Exit)(a:Act)(w:World):Prop:=
 x= .normal/\∃env st m φ,R env st/\Inv e m φ env st a w
def WL(P:Program)(e:En)(ops:Array Oper)(l:List Oper)(env:Env)(st:List AO)(R:Env->List AO->Prop):Prop:=
 ∀m φ a w,Inv e m φ env st a w->d5 P ops (sk e R) l a w
def WQ(P:Program)(n:Nat)(ops:Array Oper)(l:List Oper)(env:Env)(st:List AO)(R:Env->Prop):Prop:=
 ∀m φ a w df,SR m φ st w->EnvOk m φ w env a->a.tmps.size=n->a.defers=df->
  wpQuiet P ops (Below w.heap.size w) (λa'=>∃env',R env'/\EnvOk m φ w env' a'/\a'.tmps.size=n/\a'.defers=df) l a
section control
variable{P:Program}{e:En}{k:Ko}{env:Env}{st:List AO}
theorem vn{x y:Code}(h:WC P e x (.seq y k) env st):WC P e (.seq x y) k env st:=λm φ a w hi=>wpIn_seq (h m φ a w hi)
theorem tO(h:WE P e .normal k env st):WC P e .skip k env st:=λm φ a w hi=>wpIn_skip (h m φ a w hi)
theorem rP{id:Nat}{c:Code}(h:WC P e c (.blk id k) env st):WC P e (.block id c) k env st:=λm φ a w hi=>wpIn_block (h m φ a w hi)
theorem tP{id:Nat}(h:WE P e (.exit id) k env st):WC P e (.exit id) k env st:=λm φ a w hi=>wpIn_exit (h m φ a w hi)
theorem vp(h:WE P e .ret k env st):WC P e .ret k env st:=λm φ a w hi=>wpIn_ret (h m φ a w hi)
theorem rM{c:Code}(h:WC P e c k env st):WE P e .normal (.seq c k) env st:=λm φ a w hi=>h m φ a w hi
theorem nX{id:Nat}{c:Code}(h:WE P e (.exit id) k env st):WE P e (.exit id) (.seq c k) env st:=λm φ a w hi=>h m φ a w hi
theorem pE{c:Code}(h:WE P e .ret k env st):WE P e .ret (.seq c k) env st:=λm φ a w hi=>h m φ a w hi
theorem vm{id:Nat}(h:WE P e .normal k env st):WE P e .normal (.blk id k) env st:=λm φ a w hi=>h m φ a w hi
theorem pI{id:Nat}(h:WE P e .normal k env st):WE P e (.exit id) (.blk id k) env st:=λm φ a w hi=>by
 simpa[Ko.den,Exit.inBlock] using h m φ a w hi
theorem n5{id id':Nat}(hn:Nat.beq id' id=false)(h:WE P e (.exit id') k env st):WE P e (.exit id') (.blk id k) env st:=λm φ a w hi=>by
 have:id'≠id:=λh=>by subst h;simp at hn
 simpa[Ko.den,Exit.inBlock,this] using h m φ a w hi
theorem pH{id:Nat}(h:WE P e .ret k env st):WE P e .ret (.blk id k) env st:=λm φ a w hi=>h m φ a w hi
theorem bZ{J:Env->List AO->Prop}(h:J env st):WE P e .normal (.lp J k) env st:=λm φ _ _ hi=>⟨env,st,m,φ,h,hi⟩
theorem pG{id:Nat}{J:Env->List AO->Prop}(h:WE P e (.exit id) k env st):WE P e (.exit id) (.lp J k) env st:=λm φ a w hi=>h m φ a w hi
theorem qX{J:Env->List AO->Prop}(h:WE P e .ret k env st):WE P e .ret (.lp J k) env st:=λm φ a w hi=>h m φ a w hi
theorem jV{c:Operand}{x y:Code}{t:Bool}(hc:opv env c=some (.d (.v (.bool t))))(h1:t=true->WC P e x k env st)(h0:t=false->WC P e y k env st):
  WC P e (.cond c x y) k env st:=λm φ a w hi=>by
 have hv:a.eval c= .bool t:=by have:=bc hi.env hc;simpa[RA,RD] using this
 exact wpIn_cond_split hv (λh=>h1 h m φ a w hi) (λh=>h0 h m φ a w hi)
theorem br{c:Operand}{x y:Code}(hc:opv env c=some (.d (.v (.bool true))))(h1:WC P e x k env st):WC P e (.cond c x y) k env st:=
 jV hc (λ_=>h1) (λh=>by cases h)
theorem aA{c:Operand}{x y:Code}(hc:opv env c=some (.d (.v (.bool false))))(h0:WC P e y k env st):WC P e (.cond c x y) k env st:=
 jV hc (λh=>by cases h) (λ_=>h0)
theorem qY{id:Nat}{l:List Oper}(h:WL P e l.toArray l env st λenv' st'=>WE P e .normal k env' st')(hd:cv l=true:=by kernel_rfl):WC P e (.region id l.toArray false) k env st:=λm φ a w hi=>
 wpIn_mono (wpIn_region_lit (iw l hd a w (h m φ a w hi))) λx a' w' ⟨hx,env',st',m',φ',hR,hi'⟩=>by subst hx;exact hR m' φ' a' w' hi'
theorem Inv.below{m:List Cz}{φ:Nat->Nat}{a a':Act}{w w':World}{env':Env}(hi:Inv e m φ env st a w)(hb:Below w.heap.size w w')
  (he:EnvOk m φ w env' a')(hsz:a'.tmps.size=e.n)(hd:a'.defers=a.defers):Inv e m φ env' st a' w':=
 ⟨hi.sr.of_below hb,hi.ev.trans (Ev.of_below hi.sr hb),he.mono (Pre.refl m) (Fz.of_below hi.sr hb),hsz,by rw[hd];exact hi.df.ev (Ev.of_below hi.sr hb)⟩
theorem cS{id:Nat}{l:List Oper}(hm:P.follows .mixedOrders=true)(hB:Region.lexB .any l.toArray=true)
  (h:WQ P e.n l.toArray l env st λenv'=>WE P e .normal k env' st)(hnd:cv l=true:=by kernel_rfl):WC P e (.region id l.toArray true) k env st:=λm φ a w hi=>by
 refine gX (C:=Below w.heap.size w) (eE k) hnd hm hB ((Below.refl _ _).drew) ?_;have:=h m φ a w _ hi.sr hi.env hi.sz rfl;have mono:∀(a0:Act)(_:Inv e m φ env st a0 w)(l':List Oper)(a:Act),wpQuiet P l.toArray (Below w.heap.size w) (λa'=>∃env',(λenv'=>WE P e .normal k env' st) env'/\EnvOk m φ w env' a'/\a'.tmps.size=e.n/\a'.defers=a0.defers) l' a->
   wpQuiet P l.toArray (Below w.heap.size w) (λa'=>∀w',Below w.heap.size w w'->k.den P e .normal a' w') l' a:=by
  intro a0 hi0 l';induction l' with
  |nil=>rintro a ⟨env',hR,he,hsz,hd⟩ w' hb;exact hR m φ a w' (hi0.below hb he hsz hd)
  |cons o l' ih=>intro a h;unfold wpQuiet at h⊢;split;rename_i hw;rw[if_pos hw] at h;exact Oper.quiet_mono (λa=>ih a) h;rename_i hw;rw[if_neg hw] at h;exact ih _ h
 exact mono a hi l a this
theorem aV{c:Code}{ι:Type}(I:ι->Env->List AO->Prop)(μ:ι->Nat)(x0:ι)(h0:I x0 env st)
  (round:∀x env' st',I x env' st'->WC P e c (.lp (λenv'' st''=>∃y,I y env'' st''/\μ y<μ x) k) env' st'):WC P e (.loop c) k env st:=by
 intro m φ a w hi;refine jP (λx a w=>∃env st m φ,I x env st/\Inv e m φ env st a w) μ x0 ⟨env,st,m,φ,h0,hi⟩ ?_;rintro x a w ⟨env',st',m',φ',hI,hinv⟩;refine wpIn_mono (round x env' st' hI m' φ' a w hinv) ?_;intro ex a' w' hq;cases ex with
 |normal=>obtain⟨env'',st'',m'',φ'',⟨y,hy,hlt⟩,hi''⟩:=hq;exact⟨y,⟨env'',st'',m'',φ'',hy,hi''⟩,hlt⟩
 |_=>exact hq
theorem cf{c:Code}(n:Nat)(h:WC P e c (.rl n c k) env st):WC P e (.loop c) k env st:=λm φ a w hi=>wpIn_loop_rounds (n+1) (h m φ a w hi)
theorem fa{c:Code}{n:Nat}(h:WC P e c (.rl n c k) env st):WE P e .normal (.rl (n+1) c k) env st:=λm φ a w hi=>h m φ a w hi
theorem bC{c:Code}{n id:Nat}(h:WE P e (.exit id) k env st):WE P e (.exit id) (.rl n c k) env st:=λm φ a w hi=>h m φ a w hi
theorem iW{c:Code}{n:Nat}(h:WE P e .ret k env st):WE P e .ret (.rl n c k) env st:=λm φ a w hi=>h m φ a w hi
end control
end Go.Sk
namespace Go.Sk
open Go.RowKit (Below)
def Le(x y:AV):Prop:=∀m φ w v,RA m φ w x v->RA m φ w y v
theorem Le.refl(x:AV):Le x x:=λ_ _ _ _ h=>h
theorem Le.u(x:AV):Le x .u:=λ_ _ _ _ _=>trivial
theorem Le.nil:Le (.d (.v (.slice none 0 0))) (.d (.sl [])):=λ_ _ _ _ h=>by simp only[RA,RD] at h⊢;exact .inl ⟨trivial,none,0,h,λ_=>rfl⟩
theorem Le.fs(es:List (List D)):Le (.fs es) (.d (.sl es)):=λ_ _ _ _ h=>by simp only[RA] at h⊢;exact h.1
def Les:List AV->List AV->Prop
 |[],[]=>True
 |x::xs,y::ys=>Le x y/\Les xs ys
 |_,_=>False
theorem Les.refl:∀l:List AV,Les l l
 |[]=>trivial
 |x::l=>⟨Le.refl x,Les.refl l⟩
theorem Les.ras{m φ w}:∀{xs ys:List AV}{vs:List Value},Les xs ys->RAs m φ w xs vs->RAs m φ w ys vs
 |[],[],vs,_,h=>h
 |x::xs,y::ys,vs,hl,h=>by
  simp only[RAs] at h⊢;obtain⟨c,cs,h1,h2,h3⟩:=h;exact⟨c,cs,h1,hl.1 _ _ _ _ h2,Les.ras hl.2 h3⟩
 |[],_::_,_,hl,_=>hl.elim
 |_::_,[],_,hl,_=>hl.elim
theorem RAv{m φ w}{x:Value}:RA m φ w (.d (.v x)) x:=by simp[RA,RD]
theorem bO{m φ w}:∀{ds:List D}{vs:List Value},RAs m φ w (ds.map .d) vs->RFs φ w ds vs
 |[],vs,h=>by simpa[RAs,RFs] using h
 |d::ds,vs,h=>by
  simp only[List.map_cons,RAs] at h;obtain⟨c,cs,h1,h2,h3⟩:=h;simp only[RFs];simp only[RA] at h2;exact⟨c,cs,h1,h2,bO h3⟩
theorem bY{m φ w}:∀{ds:List D}{vs:List Value},RFs φ w ds vs->RAs m φ w (ds.map .d) vs
 |[],vs,h=>by simpa[RAs,RFs] using h
 |d::ds,vs,h=>by
  simp only[RFs] at h;obtain⟨c,cs,h1,h2,h3⟩:=h;simp only[List.map_cons,RAs,RA];exact⟨c,cs,h1,h2,bY h3⟩
theorem b9{xs:List AV}{ds:List D}(h:Les xs (ds.map .d)):Le (.ag xs) (.d (.ag ds)):=λ_ _ _ _ hh=>by
 simp only[RA,RD] at hh⊢;obtain⟨cs,h1,h2⟩:=hh;exact⟨cs,h1,bO (h.ras h2)⟩
theorem fO{xs:List AV}{ds:List D}(h:Les xs (ds.map .d)):Le (.tu xs) (.d (.tu ds)):=λ_ _ _ _ hh=>by
 simp only[RA,RD] at hh⊢;obtain⟨cs,h1,h2⟩:=hh;exact⟨cs,h1,bO (h.ras h2)⟩
def Sub(env' env:Env):Prop:=∀t x,env'.get t=some x->∃x',env.get t=some x'/\Le x' x
theorem Sub.nil(env:Env):Sub [] env:=λt x h=>by simp[Env.get] at h
theorem Sub.cons{env' env:Env}{t:Nat}{x x':AV}(h:env.get t=some x')(hl:Le x' x)(hs:Sub env' env):Sub ((t,x)::env') env:=λs y hy=>by
 unfold Env.get at hy;cases hb:Nat.beq s t with
 |true=>rw[hb] at hy;simp only[cdT,ao] at hy;subst hy;have:s=t:=nbE hb;subst this;exact⟨x',h,hl⟩
 |false=>rw[hb] at hy;exact hs s y hy
theorem Sub.one{env' env:Env}{t:Nat}{x:AV}(h:env.get t=some x)(hs:Sub env' env):Sub ((t,x)::env') env:= .cons h (Le.refl x) hs
theorem Sub.refl(env:Env):Sub env env:=λ_ x h=>⟨x,h,Le.refl x⟩
theorem EnvOk.sub{m φ w}{env env':Env}{a:Act}(h:EnvOk m φ w env a)(hs:Sub env' env):EnvOk m φ w env' a:=⟨λt x hx=>
 let ⟨x',h1,h2⟩:=hs t x hx;let ⟨v,h3,h4⟩:=h t x' h1
 ⟨v,h3,h2 _ _ _ _ h4⟩,h.gl⟩
theorem Inv.sub{e m φ env env' st a w}(h:Inv e m φ env st a w)(hs:Sub env' env):Inv e m φ env' st a w:=⟨h.sr,h.ev,h.env.sub hs,h.sz,h.df⟩
theorem WC.sub{P e c k env env' st}(hs:Sub env' env)(h:WC P e c k env' st):WC P e c k env st:=λm φ a w hi=>h m φ a w (hi.sub hs)
theorem WE.sub{P e x k env env' st}(hs:Sub env' env)(h:WE P e x k env' st):WE P e x k env st:=λm φ a w hi=>h m φ a w (hi.sub hs)
theorem WL.sub{P e ops l env env' st R}(hs:Sub env' env)(h:WL P e ops l env' st R):WL P e ops l env st R:=λm φ a w hi=>h m φ a w (hi.sub hs)
theorem EnvOk.put{m φ w}{env:Env}{a:Act}{d:Nat}{x:AV}{v:Value}(h:EnvOk m φ w env a)(hd:d<a.tmps.size)(hv:RA m φ w x v):EnvOk m φ w ((d,x)::env) (a.put (some d) v):=⟨λt y hy=>by
 unfold Env.get at hy;simp only[Act.put];cases hb:Nat.beq t d with
 |true=>rw[hb] at hy;simp only[cdT,ao] at hy;subst hy;have:t=d:=nbE hb;subst this;exact⟨v,by simp[hd],hv⟩
 |false=>
  rw[hb] at hy;have hne:d≠t:=λh=>by subst h;simp at hb
  obtain⟨u,h1,h2⟩:=h t y hy;exact⟨u,by simpa[Array.getElem?_setIfInBounds,hne] using h1,h2⟩,h.gl⟩
def Wt(ops:Array Oper)(env:Env)(o:Oper)(x:Bool):Prop:=∀m φ w a,EnvOk m φ w env a->Region.wanted o (yielded ops a.tmps)=x
theorem Wt.none{ops env o}(h:o.guard=none):Wt ops env o true:=λ_ _ _ _ _=>by simp[Region.wanted,h]
theorem gW{m φ w}{ops:Array Oper}{env:Env}{a:Act}{j t:Nat}{x:Value}(h:EnvOk m φ w env a)(hj:(ops[j]?).bind (·.dst)=some t)(hx:env.get t=some (.d (.v x))):
  yielded ops a.tmps j=match x with| .bool b=>some b|_=>none:=by
 obtain⟨v,h1,h2⟩:=h t _ hx;simp only[RA,RD] at h2;subst h2;unfold yielded;rw[hj];simp only[bnS,h1];cases v<;>rfl
theorem Wt.yes{ops env o}{j t:Nat}{b:Bool}(h:o.guard=some (j,b))(hj:(ops[j]?).bind (·.dst)=some t)(hx:env.get t=some (.d (.v (.bool b)))):Wt ops env o true:=λ_ _ _ _ he=>by
 simp only[Region.wanted,h,gW he hj hx];simp
theorem Wt.no{ops env o}{j t:Nat}{b b':Bool}(h:o.guard=some (j,b))(hj:(ops[j]?).bind (·.dst)=some t)(hx:env.get t=some (.d (.v (.bool b'))))(hb:(b'==b)=false):Wt ops env o false:=λ_ _ _ _ he=>by
 simp only[Region.wanted,h,gW he hj hx];cases b<;>cases b'<;>simp_all
def Yields(P:Program)(env:Env)(st:List AO)(o:Oper)(r:AV):Prop:=
 ∀m φ a w,SR m φ st w->EnvOk m φ w env a->∃v,RA m φ w r v/\∀w',Below w.heap.size w w'->(execOp a.eval o).run P w'= .ok (.value v) w'
def YieldsQ(P:Program)(env:Env)(st:List AO)(o:Oper)(r:AV):Prop:=
 ∀m φ a w,SR m φ st w->EnvOk m φ w env a->∃v,RA m φ w r v/\∀w',Below w.heap.size w w'->o.quietAt P a (Below w.heap.size w) w' v
theorem fL{P env st o r}(h:Yields P env st o r):YieldsQ P env st o r:=λm φ a w hs he=>
 let ⟨v,h1,h2⟩:=h m φ a w hs he
 ⟨v,h1,λw' hb=>by simp[Oper.quietAt,h2 w' hb,Oper.quietUpon]⟩
section
variable{P:Program}{e:En}{ops:Array Oper}{rest:List Oper}{o:Oper}{env:Env}{st:List AO}{R:Env->List AO->Prop}{n d:Nat}{RQ:Env->Prop}{r:AV}
theorem WL.nil(h:R env st):WL P e ops [] env st R:=λm φ _ _ hi=>⟨rfl,env,st,m,φ,h,hi⟩
theorem WQ.nil(h:RQ env):WQ P n ops [] env st RQ:=λ_ _ _ _ _ _ he hz hd=>⟨env,h,he,hz,hd⟩
theorem fQ(a:Act)(d:Option Tmp)(v:Value):(a.put d v).tmps.size=a.tmps.size:=by cases d<;>simp[Act.put]
theorem fR(a:Act)(d:Option Tmp)(v:Value):(a.put d v).defers=a.defers:=by cases d<;>simp[Act.put]
theorem Inv.put{m φ a w}{x:AV}{v:Value}(hi:Inv e m φ env st a w)(hd:d<e.n)(hv:RA m φ w x v):Inv e m φ ((d,x)::env) st (a.put (some d) v) w:=
 ⟨hi.sr,hi.ev,hi.env.put (by rw[hi.sz];exact hd) hv,by rw[fQ];exact hi.sz,by rw[fR];exact hi.df⟩
theorem WL.q(hy:Yields P env st o r)(hw:Wt ops env o true)(ho:o.dst=some d)(hd:Nat.ble (d+1) e.n=true)(h:WL P e ops rest ((d,r)::env) st R):WL P e ops (o::rest) env st R:=λm φ a w hi=>by
 obtain⟨v,h1,h2⟩:=hy m φ a w hi.sr hi.env;unfold d5;rw[if_pos (hw _ _ _ _ hi.env)];refine .inl ?_;simp only[Oper.wp,h2 w (Below.refl _ _),Oper.upon,ho];exact h m φ _ w (hi.put (nbT hd) h1)
theorem WL.skip(hw:Wt ops env o false)(ho:o.dst=some d)(hd:Nat.ble (d+1) e.n=true)(h:WL P e ops rest ((d, .d (.v undef))::env) st R):WL P e ops (o::rest) env st R:=λm φ a w hi=>by
 unfold d5;rw[if_neg (by simp[hw _ _ _ _ hi.env]),ho];exact h m φ _ w (hi.put (nbT hd) (by simp[RA,RD]))
theorem WL.skip0(hw:Wt ops env o false)(ho:o.dst=none)(h:WL P e ops rest env st R):WL P e ops (o::rest) env st R:=λm φ a w hi=>by
 unfold d5;rw[if_neg (by simp[hw _ _ _ _ hi.env]),ho];exact h m φ _ w hi
theorem WQ.q(hy:YieldsQ P env st o r)(hw:Wt ops env o true)(ho:o.dst=some d)(hd:Nat.ble (d+1) n=true)(h:WQ P n ops rest ((d,r)::env) st RQ):WQ P n ops (o::rest) env st RQ:=λm φ a w df hs he hz hdf=>by
 obtain⟨v,h1,h2⟩:=hy m φ a w hs he;unfold wpQuiet;rw[if_pos (hw _ _ _ _ he)];refine⟨v,h2,?_⟩;rw[ho];exact h m φ _ w df hs (he.put (by rw[hz];exact nbT hd) h1) (by rw[fQ];exact hz) (by rw[fR];exact hdf)
theorem WQ.skip(hw:Wt ops env o false)(ho:o.dst=some d)(hd:Nat.ble (d+1) n=true)(h:WQ P n ops rest ((d, .d (.v undef))::env) st RQ):WQ P n ops (o::rest) env st RQ:=λm φ a w df hs he hz hdf=>by
 unfold wpQuiet;rw[if_neg (by simp[hw _ _ _ _ he]),ho];exact h m φ _ w df hs (he.put (by rw[hz];exact nbT hd) (by simp[RA,RD])) (by rw[fQ];exact hz) (by rw[fR];exact hdf)
theorem EnvOk.lit{m φ w}{a:Act}{t:Nat}{x:AV}(h:EnvOk m φ w env a)(hx:env.get t=some x):EnvOk m φ w ((t,x)::env) a:=⟨λs y hy=>by
 unfold Env.get at hy;cases hb:Nat.beq s t with
 |true=>rw[hb] at hy;simp only[cdT,ao] at hy;subst hy;have:s=t:=nbE hb;subst this;exact h s _ hx
 |false=>rw[hb] at hy;exact h s y hy,h.gl⟩
theorem WL.split{l:List Oper}{t:Nat}{x:Bool}(hx:env.get t=some (.d (.v (.bool x))))(h1:x=true->WL P e ops l ((t, .d (.v (.bool true)))::env) st R)
  (h0:x=false->WL P e ops l ((t, .d (.v (.bool false)))::env) st R):WL P e ops l env st R:=λm φ a w hi=>by
 cases x;exact h0 rfl m φ a w ⟨hi.sr,hi.ev,hi.env.lit hx,hi.sz,hi.df⟩;exact h1 rfl m φ a w ⟨hi.sr,hi.ev,hi.env.lit hx,hi.sz,hi.df⟩
def Does(P:Program)(env:Env)(st:List AO)(o:Oper)(r:AV)(st':List AO):Prop:=
 ∀m φ a w,SR m φ st w->EnvOk m φ w env a->∃v w' m' φ',((execOp a.eval o).run P w= .ok (.value v) w'\/((execOp a.eval o).run P w= .ok .skip w'/\v=undef))/\
  Ev m φ w m' φ' w'/\SR m' φ' st' w'/\RA m' φ' w' r v
def DoesB(P:Program)(env:Env)(st:List AO)(o:Oper)(r:AV)(st':List AO):Prop:=
 ∀m φ a w,SR m φ st w->EnvOk m φ w env a->∃v w' m' φ',(execOp a.eval o).run P w= .ok (.value v) w'/\
  Ev m φ w m' φ' w'/\SR m' φ' st' w'/\RA m' φ' w' r v/\Below w.heap.size w w'
theorem DoesB.does{P env st o r st'}(h:DoesB P env st o r st'):Does P env st o r st':=λm φ a w hs he=>
 let ⟨v,w',m',φ',h1,h2,h3,h4,_⟩:=h m φ a w hs he
 ⟨v,w',m',φ', .inl h1,h2,h3,h4⟩
theorem Inv.ev_put{m φ a w m' φ' w' st'}{x:AV}{v:Value}(hi:Inv e m φ env st a w)(hev:Ev m φ w m' φ' w')(hsr:SR m' φ' st' w')(hd:d<e.n)(hv:RA m' φ' w' x v):Inv e m' φ' ((d,x)::env) st' (a.put (some d) v) w':=
 ⟨hsr,hi.ev.trans hev,(hi.env.mono hev.pre hev.fz).put (by rw[hi.sz];exact hd) hv,by rw[fQ];exact hi.sz,by rw[fR];exact hi.df.ev hev⟩
theorem Inv.go{m φ a w m' φ' w' st'}(hi:Inv e m φ env st a w)(hev:Ev m φ w m' φ' w')(hsr:SR m' φ' st' w'):Inv e m' φ' env st' a w':=
 ⟨hsr,hi.ev.trans hev,hi.env.mono hev.pre hev.fz,hi.sz,hi.df.ev hev⟩
theorem WL.s{st':List AO}(hy:Does P env st o r st')(hw:Wt ops env o true)(ho:o.dst=some d)(hd:Nat.ble (d+1) e.n=true)(h:WL P e ops rest ((d,r)::env) st' R):WL P e ops (o::rest) env st R:=λm φ a w hi=>by
 obtain⟨v,w',m',φ',h1,h2,h3,h4⟩:=hy m φ a w hi.sr hi.env;have hi':=hi.ev_put (d:=d) h2 h3 (nbT hd) h4;unfold d5;rw[if_pos (hw _ _ _ _ hi.env)];refine .inl ?_;rcases h1 with h1|⟨h1,hv⟩
 simp only[Oper.wp,h1,Oper.upon,ho];exact h m' φ' _ w' hi';subst hv;simp only[Oper.wp,h1,Oper.upon,ho];exact h m' φ' _ w' hi'
theorem WL.s0{st':List AO}(hy:Does P env st o r st')(hw:Wt ops env o true)(ho:o.dst=none)(h:WL P e ops rest env st' R):WL P e ops (o::rest) env st R:=λm φ a w hi=>by
 obtain⟨v,w',m',φ',h1,h2,h3,h4⟩:=hy m φ a w hi.sr hi.env;have hi':=hi.go h2 h3;unfold d5;rw[if_pos (hw _ _ _ _ hi.env)];refine .inl ?_;rcases h1 with h1|⟨h1,hv⟩
 simp only[Oper.wp,h1,Oper.upon,ho];exact h m' φ' _ w' hi';simp only[Oper.wp,h1,Oper.upon,ho];exact h m' φ' _ w' hi'
def c4(env:Env):List Operand->Option (List AV)
 |[]=>some []
 |x::xs=>match opv env x,c4 env xs with|some y,some ys=>some (y::ys)|_,_=>none
theorem gC{m φ w}{a:Act}(h:EnvOk m φ w env a):∀{xs:List Operand}{ys:List AV},c4 env xs=some ys->RAs m φ w ys (xs.map a.eval)
 |[],ys,hx=>by simp only[c4,ao] at hx;subst hx;exact bB
 |x::xs,ys,hx=>by
  simp only[c4] at hx;split at hx;rename_i y ys' h1 h2;simp only[ao] at hx;subst hx;exact aC (bc h h1) (gC h h2);simp at hx
theorem aH{m φ w}:∀{xs ys:List AV}{us vs:List Value},RAs m φ w xs us->RAs m φ w ys vs->RAs m φ w (xs++ys) (us++vs)
 |[],ys,us,vs,h,k=>by simp only[RAs] at h;subst h;simpa using k
 |x::xs,ys,us,vs,h,k=>by
  simp only[RAs] at h;obtain⟨c,cs,h1,h2,h3⟩:=h;subst h1;simp only[List.cons_append,RAs];exact⟨c,cs++vs,rfl,h2,aH h3 k⟩
theorem fb{m φ w a}{f:FuncId}{c:Call}{x:Operand}{first caps asz:List AV}(h:EnvOk m φ w env a)(hop:o.op= .call c)(hx:c.callee= .value x)
  (hf:opv env x=some (.fn (.func f) first caps))(has:c4 env c.args.toList=some asz)(hc:eU P f):
  ∃vs,RAs m φ w (first++asz++caps) vs/\∀w',(execOp a.eval o).run P w'= .ok (.enter f ⟨vs⟩) w':=by
 have hv:=bc h hf;simp only[RA] at hv;obtain⟨fs,cs,h1,h2,h3⟩:=hv;have h4:=gC h has;refine⟨fs++c.args.toList.map a.eval++cs,aH (aH h2 h4) h3,λw'=>?_⟩;obtain⟨fn,g1,g2,g3⟩:=hc;have e1:(List.toArray fs++c.args.map a.eval++List.toArray cs)=List.toArray (fs++c.args.toList.map a.eval++cs):=by apply Array.toList_inj.mp;simp
 simp only[execOp,hop,resolve,hx,h1,Deferred.ofValue,Sem.run_bind,Sem.run_pure,Result.andThen_ok,invoke,callFunc,run_program,g1,g2,Bool.false_eq_true,ite_false,g3];simp only[e1]
theorem WL.call{f:FuncId}{c:Call}{x:Operand}{first caps asz bs:List AV}{Q:AV->List AO->Prop}(hop:o.op= .call c)(hx:c.callee= .value x)
  (hf:opv env x=some (.fn (.func f) first caps))(has:c4 env c.args.toList=some asz)(hc:Ctr P f bs st Q)(hl:Les (first++asz++caps) bs)
  (hw:Wt ops env o true)(ho:o.dst=some d)(hd:Nat.ble (d+1) e.n=true)(h:∀r st',Q r st'->WL P e ops rest ((d,r)::env) st' R):WL P e ops (o::rest) env st R:=λm φ a w hi=>by
 obtain⟨vs,h1,h2⟩:=fb (P:=P) hi.env hop hx hf has hc.1;unfold d5;rw[if_pos (hw _ _ _ _ hi.env)];refine .inl ?_;simp only[Oper.wp,h2,Oper.upon,ho];refine(hc.2 m φ w vs hi.sr (hl.ras h1)).mono ?_;rintro en w' ⟨v,r,st',m',φ',rfl,hQ,hev,hsr,hra⟩;exact h r st' hQ m' φ' _ w' (hi.ev_put hev hsr (nbT hd) hra)
theorem jd{f:FuncId}{asz:List AV}{m φ w}{vs:List Value}{ds:List D}{x:D}(hc:Pu P f ds x)(hs:SR m φ st w)(ha:RAs m φ w asz vs)(hl:Les asz (ds.map .d)):
  Calls P f ⟨vs⟩ w λen w'=>∃v φ',en= .returned v/\Ev m φ w m φ' w'/\SR m φ' st w'/\RD φ' w' x v/\Below w.heap.size w w':=by
 have ha':RAs ([]:List Cz) φ w (ds.map .d) vs:=bY (bO (hl.ras ha));refine(hc.2 [] φ w vs hs.nil ha').mono ?_;rintro en w' ⟨v,r,st',m',φ',rfl,⟨rfl,rfl⟩,hev,hsr,hra⟩;have hm':m'=[]:=List.eq_nil_of_length_eq_zero hsr.len;subst hm';have hk:∀b,b<w.heap.size->w'.heap[b]? =w.heap[b]?/\φ' b=φ b:=λb hb=>hev.keep b hb (by simp[In]);refine⟨v,φ',rfl,⟨Pre.refl m,λ_ h=> .inl h,hev.os,hev.tape,hev.output,hev.size,λb hb _=>hk b hb,hev.fz⟩,hs.of_keep hk hev.fz hsr.lt,?_,⟨hev.os,hev.tape,hev.output,hev.size,λb hb=>(hk b hb).1⟩⟩;simpa[RA] using hra
theorem WL.fn{f:FuncId}{c:Call}{x:Operand}{first caps asz:List AV}{ds:List D}{y:D}(hop:o.op= .call c)(hx:c.callee= .value x)
  (hf:opv env x=some (.fn (.func f) first caps))(has:c4 env c.args.toList=some asz)(hc:Pu P f ds y)(hl:Les (first++asz++caps) (ds.map .d))
  (hw:Wt ops env o true)(ho:o.dst=some d)(hd:Nat.ble (d+1) e.n=true)(h:WL P e ops rest ((d, .d y)::env) st R):WL P e ops (o::rest) env st R:=λm φ a w hi=>by
 obtain⟨vs,h1,h2⟩:=fb (P:=P) hi.env hop hx hf has hc.1;unfold d5;rw[if_pos (hw _ _ _ _ hi.env)];refine .inl ?_;simp only[Oper.wp,h2,Oper.upon,ho];refine(jd hc hi.sr h1 hl).mono ?_;rintro en w' ⟨v,φ',rfl,hev,hsr,hra,_⟩;exact h m φ' _ w' (hi.ev_put hev hsr (nbT hd) (by simpa[RA] using hra))
def D.gnds:List D->Option (List Value)
 |[]=>some []
 | .v x::l=>match D.gnds l with|some vs=>some (x::vs)|none=>none
 |_::_=>none
def D.gnd:D->Option Value
 | .v x=>some x
 | .tu ps=>(D.gnds ps).map λvs=> .tuple ⟨vs⟩
 | .ag ps=>(D.gnds ps).map λvs=> .agg ⟨vs⟩
 |_=>none
theorem lz{φ w}:∀{ps:List D}{cs vs:List Value},RFs φ w ps cs->D.gnds ps=some vs->cs=vs
 |[],cs,vs,h,hg=>by simp only[RFs] at h;simp only[D.gnds,ao] at hg;rw[h,hg]
 | .v x::l,cs,vs,h,hg=>by
  simp only[RFs,RD] at h;obtain⟨c,cs',rfl,rfl,h3⟩:=h;simp only[D.gnds] at hg;split at hg;rename_i vs' h';simp only[ao] at hg;subst hg;rw[lz h3 h'];cases hg
 | .sl _::_,_,_,_,hg| .pc _::_,_,_,_,hg| .ag _::_,_,_,_,hg| .tu _::_,_,_,_,hg| .ifc _ _::_,_,_,_,hg| .fnc _ _ _::_,_,_,_,hg=>by simp[D.gnds] at hg
theorem p7{φ w}{x:D}{y v:Value}(h:RD φ w x y)(hg:D.gnd x=some v):y=v:=by
 cases x with
 |v z=>simp only[RD] at h;simp only[D.gnd,ao] at hg;rw[h,hg]
 |tu ps=>simp only[RD] at h;obtain⟨cs,rfl,h2⟩:=h;simp only[D.gnd,Option.map_eq_some_iff] at hg;obtain⟨vs,h3,rfl⟩:=hg;rw[lz h2 h3]
 |ag ps=>simp only[RD] at h;obtain⟨cs,rfl,h2⟩:=h;simp only[D.gnd,Option.map_eq_some_iff] at hg;obtain⟨vs,h3,rfl⟩:=hg;rw[lz h2 h3]
 |sl _|pc _|ifc _ _|fnc _ _ _=>simp[D.gnd] at hg
theorem kW{φ w}:∀{ps:List D}{vs:List Value},D.gnds ps=some vs->RFs φ w ps vs
 |[],vs,hg=>by simp only[D.gnds,ao] at hg;subst hg;simp[RFs]
 | .v x::l,vs,hg=>by
  simp only[D.gnds] at hg;split at hg;rename_i vs' h';simp only[ao] at hg;subst hg;simp only[RFs,RD];exact⟨x,vs',rfl,rfl,kW h'⟩;cases hg
 | .sl _::_,_,hg| .pc _::_,_,hg| .ag _::_,_,hg| .tu _::_,_,hg| .ifc _ _::_,_,hg| .fnc _ _ _::_,_,hg=>by simp[D.gnds] at hg
theorem ni{φ w}{x:D}{v:Value}(hg:D.gnd x=some v):RD φ w x v:=by
 cases x with
 |v z=>simp only[D.gnd,ao] at hg;simp[RD,hg]
 |tu ps=>simp only[D.gnd,Option.map_eq_some_iff] at hg;obtain⟨vs,h3,rfl⟩:=hg;simp only[RD];exact⟨vs,rfl,kW h3⟩
 |ag ps=>simp only[D.gnd,Option.map_eq_some_iff] at hg;obtain⟨vs,h3,rfl⟩:=hg;simp only[RD];exact⟨vs,rfl,kW h3⟩
 |sl _|pc _|ifc _ _|fnc _ _ _=>simp[D.gnd] at hg
theorem YieldsQ.fn{f:FuncId}{c:Call}{x:Operand}{first caps asz:List AV}{ds:List D}{y:D}{v:Value}(hg:D.gnd y=some v)(hop:o.op= .call c)(hx:c.callee= .value x)
  (hf:opv env x=some (.fn (.func f) first caps))(has:c4 env c.args.toList=some asz)(hc:Pu P f ds y)(hl:Les (first++asz++caps) (ds.map .d)):YieldsQ P env st o (.d y):=λm φ a w hs he=>by
 obtain⟨vs,h1,h2⟩:=fb (P:=P) he hop hx hf has hc.1;refine⟨v,by simp only[RA];exact ni hg,λw' hb=>?_⟩;simp only[Oper.quietAt,h2,Oper.quietUpon,true_and];have hs':=hs.of_below hb;have h1':=RAs.mono (Pre.refl m) (Fz.of_below hs hb) _ _ h1;refine(jd hc hs' h1' hl).mono ?_;rintro en w'' ⟨v',φ',rfl,hev,hsr,hra,hb'⟩;rw[p7 hra hg];exact⟨rfl,hb.trans (hb'.mono hb.size)⟩
end
def fW:Nat->List AV->Env
 |_,[]=> []
 |k,x::xs=>(k,x)::fW (k+1) xs
theorem kh:∀(l:List AV)(k t:Nat),(fW k l).get t=if k<=t then l[t - k]? else none
 |[],k,t=>by simp[fW,Env.get]
 |x::l,k,t=>by
  unfold fW Env.get;cases hb:Nat.beq t k with
  |true=>have:t=k:=nbE hb;subst this;simp
  |false=>
   have hne:t≠k:=λh=>by subst h;simp at hb
   simp only[cdF,kh l (k+1) t];by_cases h:k<=t;have:k+1<=t:=oM;rw[if_pos this,if_pos h,show t - k=(t - (k+1))+1 from by omega,List.getElem?_cons_succ];rw[if_neg h,if_neg oM]
theorem bQ{m φ w}:∀{xs:List AV}{vs:List Value}{i:Nat}{x:AV},RAs m φ w xs vs->xs[i]? =some x->∃v,vs[i]? =some v/\RA m φ w x v
 |[],_,_,_,_,hx=>by simp at hx
 |y::xs,vs,i,x,h,hx=>by
  simp only[RAs] at h;obtain⟨c,cs,rfl,h2,h3⟩:=h;cases i with
  |zero=>simp only[List.getElem?_cons_zero,ao] at hx;subst hx;exact⟨c,sM,h2⟩
  |succ i=>simpa using bQ h3 (by simpa using hx)
theorem aS{m φ w}:∀{xs:List AV}{vs:List Value},RAs m φ w xs vs->vs.length=xs.length
 |[],vs,h=>by simp only[RAs] at h;subst h;rfl
 |x::xs,vs,h=>by
  simp only[RAs] at h;obtain⟨c,cs,rfl,h2,h3⟩:=h;simp[aS h3]
theorem mw{P:Program}{f:FuncId}{fn:Func}{c:Code}{asz:List AV}{st:List AO}{Q:AV->List AO->Prop}{n:Nat}(hf:P.funcs[f]? =some fn)(hname:(fn.name== "runtime.NumGoroutine")=false)
  (hb:fn.body=some c)(hn:fn.ntmps=n)(hle:Nat.ble asz.length n=true)(h:∀m φ w,m.length=st.length->WC P ⟨m,φ,w,n,none,none⟩ c (.fin fn Q) (fW 0 asz) st):Ctr P f asz st Q:=by
 refine⟨⟨fn,hf,hname,by simp[hb]⟩,λm φ w vs hs ha=>o7 (n:=0) (callsIn_of_wp_marks hf hb trivial ?_)⟩;have hlen:=aS ha;refine h m φ w hs.len m φ _ w ⟨hs,Ev.refl m φ w,⟨λt x hx=>?_,hs.gl⟩,?_,trivial⟩;rw[kh] at hx;simp only[Nat.zero_le,if_true,Nat.sub_zero] at hx;obtain⟨v,h1,h2⟩:=bQ ha hx;refine⟨v,?_,h2⟩;have hlt:t<vs.length:=by
  rcases Nat.lt_or_ge t vs.length with h'|h'
  exact h';simp[List.getElem?_eq_none h'] at h1
 rw[Array.getElem?_append_left (by simpa using hlt)];simpa using h1;have:=nbT hle;simp[hn];omega
theorem sQ{P:Program}{f:FuncId}{fn:Func}{c:Code}{asz:List D}{x:D}{n:Nat}(hf:P.funcs[f]? =some fn)(hname:(fn.name== "runtime.NumGoroutine")=false)
  (hb:fn.body=some c)(hn:fn.ntmps=n)(hle:Nat.ble (asz.map AV.d).length n=true)(h:∀φ w,WC P ⟨[],φ,w,n,none,none⟩ c (.fin fn (λr' st'=>r'= .d x/\st'=[])) (fW 0 (asz.map .d)) []):Pu P f asz x:=
 mw hf hname hb hn hle (λm φ w hm=>by
  have:m=[]:=List.eq_nil_of_length_eq_zero (by simpa using hm);subst this;exact h φ w)
def Res(P:Program)(fn:Func)(env:Env)(st:List AO)(r:AV):Prop:=
 ∀m φ a w,SR m φ st w->EnvOk m φ w env a->∃v,(results fn a.tmps).run P w= .ok v w/\RA m φ w r v
theorem db{P fn env st}(h:fn.results= #[]):Res P fn env st (.tu []):=λ_ _ _ _ _ _=>⟨.tuple #[],results_none h _ _ _,by simp[RA,RAs]⟩
theorem EnvOk.getD{m φ w}{env:Env}{a:Act}{t:Nat}{x:AV}(h:EnvOk m φ w env a)(hx:env.get t=some x):RA m φ w x (a.tmps.getD t undef):=by obtain⟨v,h1,h2⟩:=h t x hx;simpa[Array.getD_eq_getD_getElem?,h1] using h2
theorem c3{w:World}{r b:Nat}{o:Obj}(h:b≠r):(w.putObj r o).heap[b]? =w.heap[b]? :=World.putObj_heap_other h
theorem vV{m:List Cz}{i b:Nat}{c:Cz}(h:m[i]? =some c)(hb:c.has b):In m b:=⟨i,c,h,hb⟩
theorem pr{m:List Cz}{φ:Nat->Nat}{st:List AO}{w:World}(hs:SR m φ st w){r:Nat}(hr:w.heap[r]? =some (.deferred (some [])))(hn:¬In m r):
  Fz φ w φ (w.putObj r (.deferred none))/\SR m φ st (w.putObj r (.deferred none)):=by
 have hF:Fz φ w φ (w.putObj r (.deferred none)):=λb off c h1 h2=>by
  refine⟨h1,?_⟩;have hb:b≠r:=λh=>by subst h;have h2:=ip h2;simp[World.cell?,hr] at h2
  rw[cu (c3 hb)];exact h2
 refine⟨hF,hs.len,λi o c h1 h2=>?_,λb hb=>hs.lt b (by simpa using hb),hs.inj,hs.gl.mono hF,λb hb=>by simpa using hs.nb b hb⟩;have h:=hs.obj i o c h1 h2;exact h.congr (Pre.refl m) hF (λb hb=>⟨c3 (λh=>hn (h▸vV h2 hb)),rfl⟩)
theorem Ev.trans'{m0 m:List Cz}{φ0 φ:Nat->Nat}{w0 w:World}{r:Nat}{o:Obj}(h:Ev m0 φ0 w0 m φ w)(hF:Fz φ w φ (w.putObj r o))(hk:∀k,k<w0.heap.size->(w.putObj r o).heap[k]? =w.heap[k]?):Ev m0 φ0 w0 m φ (w.putObj r o):=
 ⟨h.pre,h.new,h.os,h.tape,h.output,by simpa using h.size,λb hb hn=>⟨(hk b hb).trans (h.keep b hb hn).1,(h.keep b hb hn).2⟩,h.fz.trans hF⟩
theorem LeavesInM.mono{F:Fence}{n:Nat}{P:Program}{fn:Func}{tmps:Array Value}{R R':Ending->World->Prop}(hR:∀en w,R en w->R' en w):∀(ds:List Deferred)(u:FrameMode)(w:World),LeavesInM F n P fn tmps R ds u w->LeavesInM F n P fn tmps R' ds u w
 |[], .returning,w,h=>let ⟨v,h1,h2⟩:=h;⟨v,h1,hR _ _ h2⟩
 |[], .panicking c,w,h=>hR _ _ h
 |[], .run,w,h=>h.elim
 |d::ds,u,w,h=>by
  obtain⟨h1,h2⟩:=h;refine⟨h1,?_⟩;rcases h2 with⟨r,w',g1,g2,g3⟩|⟨hn,fv,cap,f,args,g1,g2,g3,g4⟩
  exact .inl ⟨r,w',g1,g2,LeavesInM.mono hR ds u w' g3⟩;refine .inr ⟨hn,fv,cap,f,args,g1,g2,g3,g4.mono ?_⟩;intro en u' w' he;cases en with
  |returned v=>exact LeavesInM.mono hR ds _ _ he
  |panicked c=>exact LeavesInM.mono hR ds _ _ he
  |outgrown=>exact hR _ _ he
theorem c6{P:Program}{F:Fence}{n:Nat}{e:En}{fn:Func}{Q:AV->List AO->Prop}{env:Env}{st:List AO}{r:AV}{m:List Cz}{φ:Nat->Nat}{a:Act}(hr:Res P fn env st r)(hQ:Q r st):
  ∀(ds:List Deferred)(w:World),Marks e.w.heap.size m w ds->SR m φ st w->EnvOk m φ w env a->Ev e.m e.φ e.w m φ w->LeavesInM F n P fn a.tmps (c8 e Q) ds .returning w
 |[],w,_,hs,he,hev=>by
  obtain⟨v,h1,h2⟩:=hr m φ a w hs he;exact⟨v,h1,v,r,st,m,φ,rfl,hQ,hev,hs,h2⟩
 |d::ds,w,hm,hs,he,hev=>by
  obtain⟨⟨b,h1,h2,h3,h4,h5⟩,h6⟩:=hm;obtain⟨hF,hs'⟩:=pr hs h2 h3;refine⟨sM, .inl ⟨b,_,h1,run_takeDeferred h2,?_⟩⟩;have hm':∀{ds:List Deferred},(∀d'∈ds,d'.target≠ .collected b)->Marks e.w.heap.size m w ds->Marks e.w.heap.size m (w.putObj b (.deferred none)) ds:=by
   intro ds;induction ds with
   |nil=>intro _ _;trivial
   |cons d ds ih=>rintro hn ⟨⟨b',g1,g2,g3,g4,g5⟩,g6⟩;have hne:b'≠b:=λh=>hn d List.mem_cons_self (h▸g1);exact⟨⟨b',g1,(c3 hne).trans g2,g3,g4,g5⟩,ih (λd' hd'=>hn d' (List.mem_cons_of_mem _ hd')) g6⟩
  exact c6 hr hQ ds _ (hm' h5 h6) hs' (he.mono (Pre.refl m) hF) (hev.trans' hF λk hk=>c3 oM)
theorem aw{P e fn Q env st}{r:AV}(hr:Res P fn env st r)(hQ:Q r st)(hds:e.nd=true:=by rfl):WE P e .ret (.fin fn Q) env st:=λ_m _φ a w hi=>
 c6 hr hQ a.defers w (hi.df.marks' hds) hi.sr hi.env hi.ev
theorem bP{P e fn Q env st}(h:WE P e .ret (.fin fn Q) env st):WE P e .normal (.fin fn Q) env st:=h
theorem Res.le{P fn env st}{r x:AV}(h:Res P fn env st r)(hl:Le r x):Res P fn env st x:=λm φ a w hs he=>
 let ⟨v,h1,h2⟩:=h m φ a w hs he
 ⟨v,h1,hl _ _ _ _ h2⟩
theorem bM{P fn env st φ0 w0 n}{x:D}{r:AV}(hr:Res P fn env st r)(hl:Le r (.d x)):WE P ⟨[],φ0,w0,n,none,none⟩ .ret (.fin fn (λr' st'=>r'= .d x/\st'=[])) env st:=λm φ a w hi=>by
 have h:=c6 (F:=EF none) (n:=0) (e:=⟨[],φ0,w0,n,none,none⟩) (Q:=λr' st'=>r'= .d x/\st'=st) (hr.le hl) ⟨rfl,rfl⟩ a.defers w hi.df.marks hi.sr hi.env hi.ev;refine LeavesInM.mono (R:=c8 ⟨[],φ0,w0,n,none,none⟩ λr' st'=>r'= .d x/\st'=st) ?_ _ _ _ h;rintro en w' ⟨v,r',st',m',φ',rfl,⟨rfl,rfl⟩,hev,hsr,hra⟩;refine⟨v, .d x,[],[],φ',rfl,⟨rfl,rfl⟩,?_,hsr.nil,by simpa[RA] using hra⟩;exact⟨Pre.refl _,λb hb=>by simp[In] at hb,hev.os,hev.tape,hev.output,hev.size,hev.keep,hev.fz⟩
end Go.Sk
namespace Go.Sk
open Go.RowKit (Below)
def aW(P:Program)(T:TypeId):Option Bool:=(P.underlying T).map fun| .struct _=>true| .array _ _=>true|_=>false
def bn(P:Program)(T:TypeId):Option Nat:=(P.info? T).map (·.size)
def c7(P:Program)(S:TypeId)(i:Nat):Option (Nat×Nat×Bool):=match P.underlying S with
 |some (.struct fs)=>match fs[i]? with
  |some f=>match bn P f.type,aW P f.type with|some n,some b=>some (f.offset,n,b)|_,_=>none
  |none=>none
 |_=>none
def aP(P:Program)(T:TypeId):Option (Nat×Bool):=match P.underlying T with
 |some (.slice t)=>match bn P t,aW P t with|some n,some b=>some (n,b)|_,_=>none
 |_=>none
def eD(P:Program)(T:TypeId):Option (Nat×Nat×Bool):=match P.underlying T with
 |some (.array len t)=>match bn P t,aW P t with|some n,some b=>some (len,n,b)|_,_=>none
 |_=>none
inductive Kd|bool|int|str|slice|map|ptr|iface|fn|arr(n:Nat)|strct|other
 deriving DecidableEq
section
variable{P:Program}{w:World}
theorem gz{T:TypeId}{b:Bool}(h:aW P T=some b):(isAgg T).run P w= .ok b w:=by
 unfold aW at h;cases hu:P.underlying T with
 |none=>simp[hu] at h
 |some d=>simp only[hu,Option.map_some,ao] at h;subst h;unfold isAgg;rw[Sem.run_bind,run_underlying hu];cases d<;>rfl
theorem ax{T:TypeId}{n:Nat}(h:bn P T=some n):(sizeOf T).run P w= .ok n w:=by
 unfold bn at h;cases hu:P.info? T with
 |none=>simp[hu] at h
 |some i=>simp only[hu,Option.map_some,ao] at h;subst h;simp[sizeOf,typeInfo,hu]
end
theorem cz{m φ w}:∀{xs:List AV}{vs:List Value}(n:Nat),RAs m φ w xs vs->RAs m φ w (xs.drop n) (vs.drop n)
 |xs,vs,0,h=>by simpa using h
 |[],vs,n+1,h=>by simp only[RAs] at h;subst h;simp[RAs]
 |x::xs,vs,n+1,h=>by
  simp only[RAs] at h;obtain⟨c,cs,rfl,_,h3⟩:=h;simpa using cz n h3
theorem bT{m φ w}:∀{xs:List AV}{vs:List Value}(n:Nat),RAs m φ w xs vs->RAs m φ w (xs.take n) (vs.take n)
 |xs,vs,0,_=>by simp[RAs]
 |[],vs,n+1,h=>by simp only[RAs] at h;subst h;simp[RAs]
 |x::xs,vs,n+1,h=>by
  simp only[RAs] at h;obtain⟨c,cs,rfl,h2,h3⟩:=h;simp only[List.take_succ_cons,RAs];exact⟨c,cs.take n,rfl,h2,bT n h3⟩
theorem ny{φ w}:∀{xs:List D}{vs:List Value}{i:Nat}{x:D},RFs φ w xs vs->xs[i]? =some x->∃v,vs[i]? =some v/\RD φ w x v
 |[],_,_,_,_,hx=>by simp at hx
 |y::xs,vs,i,x,h,hx=>by
  simp only[RFs] at h;obtain⟨c,cs,rfl,h2,h3⟩:=h;cases i with
  |zero=>simp only[List.getElem?_cons_zero,ao] at hx;subst hx;exact⟨c,sM,h2⟩
  |succ i=>simpa using ny h3 (by simpa using hx)
theorem lB{φ w}:∀{xs:List D}{vs:List Value}(n:Nat),RFs φ w xs vs->RFs φ w (xs.drop n) (vs.drop n)
 |xs,vs,0,h=>by simpa using h
 |[],vs,n+1,h=>by simp only[RFs] at h;subst h;simp[RFs]
 |x::xs,vs,n+1,h=>by
  simp only[RFs] at h;obtain⟨c,cs,rfl,_,h3⟩:=h;simpa using lB n h3
theorem iN{φ w}:∀{xs:List D}{vs:List Value}(n:Nat),RFs φ w xs vs->RFs φ w (xs.take n) (vs.take n)
 |xs,vs,0,_=>by simp[RFs]
 |[],vs,n+1,h=>by simp only[RFs] at h;subst h;simp[RFs]
 |x::xs,vs,n+1,h=>by
  simp only[RFs] at h;obtain⟨c,cs,rfl,h2,h3⟩:=h;simp only[List.take_succ_cons,RFs];exact⟨c,cs.take n,rfl,h2,iN n h3⟩
theorem fM{φ w}:∀{xs:List D}{vs:List Value},RFs φ w xs vs->vs.length=xs.length
 |[],vs,h=>by simp only[RFs] at h;subst h;rfl
 |x::xs,vs,h=>by
  simp only[RFs] at h;obtain⟨c,cs,rfl,h2,h3⟩:=h;simp[fM h3]
theorem pZ{φ w}:∀{xs:List D}{b off i:Nat}{x:D},RPs φ w xs b off->xs[i]? =some x->off+i<φ b/\∃v,w.rd b (off+i)=some v/\RD φ w x v
 |[],_,_,_,_,_,hx=>by simp at hx
 |y::xs,b,off,i,x,h,hx=>by
  simp only[RPs] at h;cases i with
  |zero=>simp only[List.getElem?_cons_zero,ao] at hx;subst hx;exact h.1
  |succ i=>have:=pZ h.2 (i:=i) (by simpa using hx);rw[show off+(i+1)=off+1+i from by omega];exact this
theorem uF{φ w}{xs:List D}{b off i:Nat}{x:D}(h:RPs φ w xs b off)(hx:xs[i]? =some x):off+i<φ b/\∃v,w.cell? ⟨b,off+i,none⟩=some v/\RD φ w x v:=
 let ⟨h1,v,h2,h3⟩:=pZ h hx
 ⟨h1,v,ip h2,h3⟩
theorem iL{φ w}:∀{xs:List D}{b off:Nat}(n:Nat),RPs φ w xs b off->RPs φ w (xs.drop n) b (off+n)
 |xs,b,off,0,h=>by simpa using h
 |[],b,off,n+1,h=>by simp[RPs]
 |x::xs,b,off,n+1,h=>by
  simp only[RPs] at h;have:=iL n h.2;rw[show off+(n+1)=off+1+n from by omega];simpa using this
theorem jw{φ w}:∀{xs:List D}{b off:Nat},RPs φ w xs b off->∃vs,RFs φ w xs vs/\∀j v,vs[j]? =some v->off+j<φ b/\w.rd b (off+j)=some v
 |[],b,off,_=>⟨[],by simp[RFs],λj v h=>by simp at h⟩
 |x::xs,b,off,h=>by
  simp only[RPs] at h;obtain⟨⟨h1,c,h2,h3⟩,h4⟩:=h;obtain⟨vs,h5,h6⟩:=jw h4;refine⟨c::vs,by simp only[RFs];exact⟨c,vs,rfl,h3,h5⟩,λj v hj=>?_⟩;cases j with
  |zero=>simp only[List.getElem?_cons_zero,ao] at hj;subst hj;exact⟨h1,h2⟩
  |succ j=>have:=h6 j v (by simpa using hj);rw[show off+(j+1)=off+1+j from by omega];exact this
theorem qJ{φ w}:∀{es:List (List D)}{k b off i:Nat}{e:List D},REs φ w es k b off->es[i]? =some e->RPs φ w e b (off+i*k)
 |[],_,_,_,_,_,_,hx=>by simp at hx
 |y::es,k,b,off,i,e,h,hx=>by
  simp only[REs] at h;cases i with
  |zero=>simp only[List.getElem?_cons_zero,ao] at hx;subst hx;simpa using h.1
  |succ i=>have:=qJ h.2 (i:=i) (by simpa using hx);rw[show off+(i+1)*k=off+k+i*k from by rw[Nat.succ_mul];omega];exact this
theorem bV{m φ st w}(hs:SR m φ st w){b off:Nat}(h:off<φ b):b<w.heap.size:=by
 rcases Nat.lt_or_ge b w.heap.size with h'|h'
 exact h';have:=hs.lt b h';omega
section
variable{P:Program}{env:Env}{st:List AO}{dst:Option Tmp}{ty:TypeId}{pos:String}{after:Array Edge}{guard:Option (Nat×Bool)}
theorem vh{x:Operand}{r:AV}(h:opv env x=some r):Yields P env st ⟨dst, .move x,ty,pos,after,guard⟩ r:=λ_m _φ a _w _ he=>
 ⟨a.eval x,bc he h,λ_w' _=>rfl⟩
theorem rJ{x:Operand}{r:AV}(h:opv env x=some r):Yields P env st ⟨dst, .assign x,ty,pos,after,guard⟩ r:=λ_m _φ a _w _ he=>
 ⟨a.eval x,bc he h,λ_w' _=>rfl⟩
theorem oC{m φ w a}{x:Operand}{b:Bool}(he:EnvOk m φ w env a)(h:opv env x=some (.d (.v (.bool b)))):a.eval x= .bool b:=by have:=bc he h;simpa[RA,RD] using this
theorem aQ{m φ w a}{x:Operand}{v:Value}(he:EnvOk m φ w env a)(h:opv env x=some (.d (.v v))):a.eval x=v:=by have:=bc he h;simpa[RA,RD] using this
theorem rD{c x y:Operand}{r:AV}(hc:opv env c=some (.d (.v (.bool true))))(h:opv env x=some r):Yields P env st ⟨dst, .pick c x y,ty,pos,after,guard⟩ r:=λm φ a w _ he=>
 ⟨a.eval x,bc he h,λw' _=>by simp[execOp,oC he hc,asBool]⟩
theorem rE{c x y:Operand}{r:AV}(hc:opv env c=some (.d (.v (.bool false))))(h:opv env y=some r):Yields P env st ⟨dst, .pick c x y,ty,pos,after,guard⟩ r:=λm φ a w _ he=>
 ⟨a.eval y,bc he h,λw' _=>by simp[execOp,oC he hc,asBool]⟩
theorem cJ(b off n:Nat):(⟨b,off,none⟩:Addr).add n=⟨b,off+n,none⟩:=by unfold Addr.add;split;rename_i h;subst h;rfl;rfl
theorem eb{T:TypeId}{w:World}{p:Addr}{v:Value}(h:aW P T=some false)(hc:w.cell? p=some v):(loadVar T p).run P w= .ok v w:=by simp[loadVar,gz h,run_load,hc]
theorem ea{T:TypeId}{w:World}{b off n:Nat}{vs:List Value}(h:aW P T=some true)(hn:bn P T=some n)(hl:vs.length=n)
  (hc:∀j v,vs[j]? =some v->w.cell? ⟨b,off+j,none⟩=some v):(loadVar T ⟨b,off,none⟩).run P w= .ok (.agg ⟨vs⟩) w:=by
 have:=run_loadCells_list (P:=P) w ⟨b,off,none⟩ vs (λj v hj=>by rw[cJ];exact hc j v hj);simp[loadVar,gz h,ax hn,<-hl,this]
theorem iG{w:World}{b j:Nat}{vs:List Value}{T:TypeId}{fr:Nat×Nat}(h:w.heap[b]? =some (.cells ⟨vs⟩ T fr)):w.cell? ⟨b,j,none⟩=vs[j]? :=by simp[World.cell?,h]
theorem eZ{m φ w a}{x:Operand}{id off:Nat}(he:EnvOk m φ w env a)(h:opv env x=some (.pt id off)):∃b,m[id]? =some (.blk b)/\a.eval x= .pointer (some ⟨b,off,none⟩):=by have:=bc he h;simpa[RA] using this
theorem gf{m φ w a}{x:Operand}{ps:List D}(he:EnvOk m φ w env a)(h:opv env x=some (.d (.pc ps))):∃b off,a.eval x= .pointer (some ⟨b,off,none⟩)/\RPs φ w ps b off:=by have:=bc he h;simpa[RA,RD] using this
theorem vi{T:TypeId}{x:Operand}{id off:Nat}{T':TypeId}{cs:List AV}{r:AV}(hx:opv env x=some (.pt id off))(hs:st[id]? =some (.row T' cs))(hT:aW P T=some false)(hr:cs[off]? =some r):
  Yields P env st ⟨dst, .load T x,ty,pos,after,guard⟩ r:=λm φ a w hsr he=>by
 obtain⟨b,h1,h2⟩:=eZ he hx;obtain⟨b',hbb,_,vs,h3,h4⟩:=hsr.obj id _ _ hs h1;simp only[Cz.blk.injEq] at hbb;subst hbb;obtain⟨v,h5,h6⟩:=bQ h4 hr;refine⟨v,h6,λw' hb=>?_⟩;have hlt:=bK h3;have hc:w'.cell? ⟨b,off,none⟩=some v:=by rw[dy (hb.block b hlt),iG h3,h5]
 simp[execOp,Instr.loadAt,Instr.sureAddr,h2,eb hT hc]
theorem tM{T:TypeId}{x:Operand}{id off n:Nat}{T':TypeId}{cs:List AV}(hx:opv env x=some (.pt id off))(hs:st[id]? =some (.row T' cs))(hT:aW P T=some true)(hn:bn P T=some n)(hl:Nat.ble (off+n) cs.length=true):
  Yields P env st ⟨dst, .load T x,ty,pos,after,guard⟩ (.ag ((cs.drop off).take n)):=λm φ a w hsr he=>by
 obtain⟨b,h1,h2⟩:=eZ he hx;obtain⟨b',hbb,_,vs,h3,h4⟩:=hsr.obj id _ _ hs h1;simp only[Cz.blk.injEq] at hbb;subst hbb;refine⟨.agg ⟨(vs.drop off).take n⟩,by simp only[RA];exact⟨_,rfl,bT n (cz off h4)⟩,λw' hb=>?_⟩;have hlt:=bK h3;have hlen:=aS h4;have hle:=nbT hl;have:=ea (P:=P) (w:=w') (b:=b) (off:=off) (vs:=(vs.drop off).take n) hT hn (by simp;omega) (λj v hj=>by
  rw[dy (hb.block b hlt),iG h3];rw[List.getElem?_take] at hj;split at hj;simpa using hj;simp at hj)
 simp[execOp,Instr.loadAt,Instr.sureAddr,h2,this]
theorem tK{T:TypeId}{x:Operand}{ps:List D}{p:D}(hx:opv env x=some (.d (.pc ps)))(hT:aW P T=some false)(hr:ps[0]? =some p):
  Yields P env st ⟨dst, .load T x,ty,pos,after,guard⟩ (.d p):=λm φ a w hsr he=>by
 obtain⟨b,off,h1,h2⟩:=gf he hx;obtain⟨h3,v,h4,h5⟩:=uF h2 hr;refine⟨v,by simpa[RA] using h5,λw' hb=>?_⟩;have hlt:=bV hsr h3;have hc:w'.cell? ⟨b,off,none⟩=some v:=by rw[dy (hb.block b hlt)];simpa using h4
 simp[execOp,Instr.loadAt,Instr.sureAddr,h1,eb hT hc]
theorem rF{T:TypeId}{x:Operand}{n:Nat}{ps:List D}(hx:opv env x=some (.d (.pc ps)))(hT:aW P T=some true)(hn:bn P T=some n)(hl:Nat.ble n ps.length=true):
  Yields P env st ⟨dst, .load T x,ty,pos,after,guard⟩ (.d (.ag (ps.take n))):=λm φ a w hsr he=>by
 obtain⟨b,off,h1,h2⟩:=gf he hx;obtain⟨vs,h3,h4⟩:=jw h2;refine⟨.agg ⟨vs.take n⟩,by simp only[RA,RD];exact⟨_,rfl,iN n h3⟩,λw' hb=>?_⟩;have hlen:=fM h3;have hle:=nbT hl;have:=ea (P:=P) (w:=w') (b:=b) (off:=off) (vs:=vs.take n) hT hn (by simp;omega) (λj v hj=>by
  rw[List.getElem?_take] at hj;split at hj;have:=h4 j v hj;rw[dy (hb.block b (bV hsr this.1))];exact ip this.2;simp at hj)
 simp[execOp,Instr.loadAt,Instr.sureAddr,h1,this]
theorem dG{S i fo n:Nat}{b:Bool}(h:c7 P S i=some (fo,n,b)):∃fs f,P.underlying S=some (.struct fs)/\fs[i]? =some f/\f.offset=fo/\bn P f.type=some n/\aW P f.type=some b:=by unfold c7 at h;split at h;rename_i fs hu;split at h;rename_i f hf;split at h;rename_i n' b' h1 h2;simp only[ao,Prod.mk.injEq] at h;obtain⟨rfl,rfl,rfl⟩:=h;exact⟨fs,f,hu,hf,rfl,h1,h2⟩;simp at h;simp at h;simp at h
theorem ge{S i fo n:Nat}{bb:Bool}{b off:Nat}(h:c7 P S i=some (fo,n+1,bb))(w:World):(Instr.fieldAt S (.pointer (some ⟨b,off,none⟩)) i).run P w= .ok (.pointer (some ⟨b,off+fo,none⟩)) w:=by obtain⟨fs,f,h1,h2,h3,h4,_⟩:=dG h;simp[Instr.fieldAt,run_underlying h1,h2,Instr.sureAddr,fieldPlace,ax h4,cJ,h3]
theorem nV{S i fo n:Nat}{bb:Bool}{x:Operand}{id off:Nat}(hf:c7 P S i=some (fo,n+1,bb))(hx:opv env x=some (.pt id off)):Yields P env st ⟨dst, .fieldAddr S x i,ty,pos,after,guard⟩ (.pt id (off+fo)):=λm φ a w _ he=>by
 obtain⟨b,h1,h2⟩:=eZ he hx;exact⟨_,by simp only[RA];exact⟨b,h1,rfl⟩,λw' _=>by simp[execOp,h2,ge hf]⟩
theorem mO{S i fo n:Nat}{bb:Bool}{x:Operand}{ps:List D}(hf:c7 P S i=some (fo,n+1,bb))(hx:opv env x=some (.d (.pc ps))):Yields P env st ⟨dst, .fieldAddr S x i,ty,pos,after,guard⟩ (.d (.pc (ps.drop fo))):=λm φ a w _ he=>by
 obtain⟨b,off,h1,h2⟩:=gf he hx;exact⟨_,by simp only[RA,RD];exact⟨b,_,rfl,iL fo h2⟩,λw' _=>by simp[execOp,h1,ge hf]⟩
theorem mi{T:TypeId}{w:World}{vs:List Value}{off:Nat}{v:Value}(h:aW P T=some false)(hv:vs[off]? =some v):(part T ⟨vs⟩ off).run P w= .ok v w:=by simp[part,gz h,hv]
theorem mh{T:TypeId}{w:World}{vs:List Value}{off n:Nat}(h:aW P T=some true)(hn:bn P T=some n):(part T ⟨vs⟩ off).run P w= .ok (.agg ⟨(vs.drop off).take n⟩) w:=by simp[part,gz h,ax hn,List.extract_toArray,List.extract_eq_take_drop]
theorem qm{m φ w a}{x:Operand}{ps:List D}(he:EnvOk m φ w env a)(h:opv env x=some (.d (.ag ps))):∃cs,a.eval x= .agg ⟨cs⟩/\RFs φ w ps cs:=by have:=bc he h;simpa[RA,RD] using this
theorem sh{m φ w a}{x:Operand}{ps:List AV}(he:EnvOk m φ w env a)(h:opv env x=some (.ag ps)):∃cs,a.eval x= .agg ⟨cs⟩/\RAs m φ w ps cs:=by have:=bc he h;simpa[RA] using this
theorem tN{S i fo n:Nat}{x:Operand}{ps:List D}{p:D}(hf:c7 P S i=some (fo,n,false))(hx:opv env x=some (.d (.ag ps)))(hp:ps[fo]? =some p):Yields P env st ⟨dst, .field S x i,ty,pos,after,guard⟩ (.d p):=λm φ a w _ he=>by
 obtain⟨cs,h1,h2⟩:=qm he hx;obtain⟨fs,f,g1,g2,rfl,g4,g5⟩:=dG hf;obtain⟨v,h3,h4⟩:=ny h2 hp;exact⟨v,by simpa[RA] using h4,λw' _=>by simp[execOp,Instr.field,h1,run_underlying g1,g2,asAgg,mi g5 h3]⟩
theorem rI{S i fo n:Nat}{x:Operand}{ps:List D}(hf:c7 P S i=some (fo,n,true))(hx:opv env x=some (.d (.ag ps))):Yields P env st ⟨dst, .field S x i,ty,pos,after,guard⟩ (.d (.ag ((ps.drop fo).take n))):=λm φ a w _ he=>by
 obtain⟨cs,h1,h2⟩:=qm he hx;obtain⟨fs,f,g1,g2,rfl,g4,g5⟩:=dG hf;exact⟨_,by simp only[RA,RD];exact⟨_,rfl,iN n (lB _ h2)⟩,λw' _=>by simp[execOp,Instr.field,h1,run_underlying g1,g2,asAgg,mh g5 g4]⟩
theorem rH{S i fo n:Nat}{x:Operand}{ps:List AV}{p:AV}(hf:c7 P S i=some (fo,n,false))(hx:opv env x=some (.ag ps))(hp:ps[fo]? =some p):Yields P env st ⟨dst, .field S x i,ty,pos,after,guard⟩ p:=λm φ a w _ he=>by
 obtain⟨cs,h1,h2⟩:=sh he hx;obtain⟨fs,f,g1,g2,rfl,g4,g5⟩:=dG hf;obtain⟨v,h3,h4⟩:=bQ h2 hp;exact⟨v,h4,λw' _=>by simp[execOp,Instr.field,h1,run_underlying g1,g2,asAgg,mi g5 h3]⟩
theorem qU{S i fo n:Nat}{x:Operand}{ps:List AV}(hf:c7 P S i=some (fo,n,true))(hx:opv env x=some (.ag ps)):Yields P env st ⟨dst, .field S x i,ty,pos,after,guard⟩ (.ag ((ps.drop fo).take n)):=λm φ a w _ he=>by
 obtain⟨cs,h1,h2⟩:=sh he hx;obtain⟨fs,f,g1,g2,rfl,g4,g5⟩:=dG hf;exact⟨_,by simp only[RA];exact⟨_,rfl,bT n (cz _ h2)⟩,λw' _=>by simp[execOp,Instr.field,h1,run_underlying g1,g2,asAgg,mh g5 g4]⟩
theorem c9{T n:Nat}{b:Bool}(h:aP P T=some (n,b)):∃t,P.underlying T=some (.slice t)/\bn P t=some n/\aW P t=some b:=by unfold aP at h;split at h;rename_i t hu;split at h;rename_i n' b' h1 h2;simp only[ao,Prod.mk.injEq] at h;obtain⟨rfl,rfl⟩:=h;exact⟨t,hu,h1,h2⟩;simp at h;simp at h
theorem fJ{T len n:Nat}{b:Bool}(h:eD P T=some (len,n,b)):∃t,P.underlying T=some (.array len t)/\bn P t=some n/\aW P t=some b:=by unfold eD at h;split at h;rename_i l t hu;split at h;rename_i n' b' h1 h2;simp only[ao,Prod.mk.injEq] at h;obtain⟨rfl,rfl,rfl⟩:=h;exact⟨t,hu,h1,h2⟩;simp at h;simp at h
theorem pR{m φ w a}{x:Operand}{xr:AV}{es:List (List D)}(he:EnvOk m φ w env a)(h:opv env x=some xr)(hl:Le xr (.d (.sl es))):RD φ w (.sl es) (a.eval x):=by have:=hl _ _ _ _ (bc he h);simpa[RA] using this
theorem eH{T n:Nat}{bb:Bool}{kk:IntKind}{i:Int}{b off len cap:Nat}(hT:aP P T=some (n,bb))(h0:0<=i)(h1:i<len)(w:World):
  (Instr.indexAt T (.slice (some ⟨b,off,none⟩) len cap) (.int kk i)).run P w= .ok (.pointer (some ⟨b,off+i.toNat*n,none⟩)) w:=by
 obtain⟨t,h2,h3,_⟩:=c9 hT;simp[Instr.indexAt,asIntOf,run_underlying h2,h0,h1,ax h3,cJ]
theorem aD{T n:Nat}{bb:Bool}{x ix:Operand}{xr:AV}{es:List (List D)}{kk:IntKind}{i:Int}{cs:List D}(hT:aP P T=some (n,bb))(hx:opv env x=some xr)(hle:Le xr (.d (.sl es)))(hi:opv env ix=some (.d (.v (.int kk i))))
  (h0:0<=i)(hc:es[i.toNat]? =some cs)(hn:cs.length=n):Yields P env st ⟨dst, .indexAddr T x ix,ty,pos,after,guard⟩ (.d (.pc cs)):=λm φ a w _ he=>by
 have h:=pR he hx hle;have hlt:i.toNat<es.length:=by
  rcases Nat.lt_or_ge i.toNat es.length with h'|h'
  exact h';simp[List.getElem?_eq_none h'] at hc
 simp only[RD] at h;rcases h with⟨h,_⟩|⟨b,off,k,cap,h1,h2,h3,h4⟩
 subst h;simp at hlt;have hk:k=n:=by rw[<-hn];exact(h3 cs (List.mem_of_getElem? hc)).symm
 subst hk;refine⟨.pointer (some ⟨b,off+i.toNat*k,none⟩),by simp only[RA,RD];exact⟨b,_,rfl,qJ h4 hc⟩,λw' _=>?_⟩;simp[execOp,h1,aQ he hi,eH hT h0 (show i<es.length by omega)]
theorem d6{T len n:Nat}{bb:Bool}{kk:IntKind}{i:Int}{b off:Nat}(hT:eD P T=some (len,n,bb))(h0:0<=i)(h1:i<len)(w:World):
  (Instr.indexAt T (.pointer (some ⟨b,off,none⟩)) (.int kk i)).run P w= .ok (.pointer (some ⟨b,off+i.toNat*n,none⟩)) w:=by
 obtain⟨t,h2,h3,_⟩:=fJ hT;simp[Instr.indexAt,asIntOf,run_underlying h2,h0,h1,ax h3,cJ,Instr.sureAddr]
theorem cg{T len n:Nat}{bb:Bool}{x ix:Operand}{id off:Nat}{kk:IntKind}{i:Int}(hT:eD P T=some (len,n,bb))(hx:opv env x=some (.pt id off))(hi:opv env ix=some (.d (.v (.int kk i))))
  (h0:0<=i)(h1:i<len):Yields P env st ⟨dst, .indexAddr T x ix,ty,pos,after,guard⟩ (.pt id (off+i.toNat*n)):=λm φ a w _ he=>by
 obtain⟨b,h2,h3⟩:=eZ he hx;exact⟨_,by simp only[RA];exact⟨b,h2,rfl⟩,λw' _=>by simp[execOp,h3,aQ he hi,d6 hT h0 h1]⟩
theorem gM{T len n:Nat}{bb:Bool}{x ix:Operand}{ps:List D}{kk:IntKind}{i:Int}(hT:eD P T=some (len,n,bb))(hx:opv env x=some (.d (.pc ps)))(hi:opv env ix=some (.d (.v (.int kk i))))
  (h0:0<=i)(h1:i<len):Yields P env st ⟨dst, .indexAddr T x ix,ty,pos,after,guard⟩ (.d (.pc (ps.drop (i.toNat*n)))):=λm φ a w _ he=>by
 obtain⟨b,off,h2,h3⟩:=gf he hx;exact⟨_,by simp only[RA,RD];exact⟨b,_,rfl,iL _ h3⟩,λw' _=>by simp[execOp,h2,aQ he hi,d6 hT h0 h1]⟩
theorem qV{x:Operand}{i:Nat}{l:List AV}{r:AV}(hx:opv env x=some (.tu l))(hr:l[i]? =some r):Yields P env st ⟨dst, .extract x i,ty,pos,after,guard⟩ r:=λm φ a w _ he=>by
 have:=bc he hx;simp only[RA] at this;obtain⟨cs,h1,h2⟩:=this;obtain⟨v,h3,h4⟩:=bQ h2 hr;exact⟨v,h4,λw' _=>by simp[execOp,Instr.extract,h1,h3]⟩
theorem pB{x:Operand}{i:Nat}{l:List D}{r:D}(hx:opv env x=some (.d (.tu l)))(hr:l[i]? =some r):Yields P env st ⟨dst, .extract x i,ty,pos,after,guard⟩ (.d r):=λm φ a w _ he=>by
 have:=bc he hx;simp only[RA,RD] at this;obtain⟨cs,h1,h2⟩:=this;obtain⟨v,h3,h4⟩:=ny h2 hr;exact⟨v,by simpa[RA] using h4,λw' _=>by simp[execOp,Instr.extract,h1,h3]⟩
theorem nN{x:Operand}{id off:Nat}(hx:opv env x=some (.pt id off)):Yields P env st ⟨dst, .nilCheck x,ty,pos,after,guard⟩ (.pt id off):=λm φ a w _ he=>by
 obtain⟨b,h1,h2⟩:=eZ he hx;exact⟨_,by simp only[RA];exact⟨b,h1,rfl⟩,λw' _=>by simp[execOp,h2]⟩
theorem nP{x:Operand}{ps:List D}(hx:opv env x=some (.d (.pc ps))):Yields P env st ⟨dst, .nilCheck x,ty,pos,after,guard⟩ (.d (.pc ps)):=λm φ a w _ he=>by
 obtain⟨b,off,h1,h2⟩:=gf he hx;exact⟨_,by simp only[RA,RD];exact⟨b,off,rfl,h2⟩,λw' _=>by simp[execOp,h1]⟩
theorem nO{x:Operand}{f:FuncId}{first caps:List AV}(hx:opv env x=some (.fn (.func f) first caps)):Yields P env st ⟨dst, .nilCheck x,ty,pos,after,guard⟩ (.fn (.func f) first caps):=λm φ a w _ he=>by
 have:=bc he hx;simp only[RA] at this;obtain⟨fs,cs,h1,h2,h3⟩:=this;exact⟨_,by simp only[RA];exact⟨fs,cs,rfl,h2,h3⟩,λw' _=>by simp[execOp,h1]⟩
theorem py{f:Fn}{first caps:Array Operand}{fs cs:List AV}(hf:c4 env first.toList=some fs)(hc:c4 env caps.toList=some cs):Yields P env st ⟨dst, .makeFunc f first caps,ty,pos,after,guard⟩ (.fn f fs cs):=λm φ a w _ he=>
 ⟨.func f (first.map a.eval) (caps.map a.eval),by
  simp only[RA];exact⟨(first.map a.eval).toList,(caps.map a.eval).toList,rfl,by simpa using gC he hf,by simpa using gC he hc⟩,λw' _=>rfl⟩
theorem rG{T n:Nat}{bb:Bool}{x:Operand}{xr:AV}{es:List (List D)}{c:Call}(hT:aP P T=some (n,bb))(hc:c=⟨.builtin .len, #[x], #[T]⟩)(hx:opv env x=some xr)(hle:Le xr (.d (.sl es))):Yields P env st ⟨dst, .call c,ty,pos,after,guard⟩ (.d (.v (.int .i64 es.length))):=λm φ a w _ he=>by
 have h:=pR he hx hle;obtain⟨t,g1,_,_⟩:=c9 hT;simp only[RD] at h;refine⟨_,RAv,λw' _=>?_⟩;subst hc;rcases h with⟨rfl,a0,c0,h,_⟩|⟨b,off,k,cap,h,_⟩
 simp[execOp,resolve,invoke,builtin,Builtin.len_,h,run_underlying g1,goInt];simp[execOp,resolve,invoke,builtin,Builtin.len_,h,run_underlying g1,goInt]
theorem e9{T:Nat}{x:Operand}{s:ByteArray}{c:Call}(hT:P.underlying T=some .string)(hc:c=⟨.builtin .len, #[x], #[T]⟩)(hx:opv env x=some (.d (.v (.string s)))):Yields P env st ⟨dst, .call c,ty,pos,after,guard⟩ (.d (.v (.int .i64 s.size))):=λm φ a w _ he=>
 ⟨_,RAv,λw' _=>by subst hc;simp[execOp,resolve,invoke,builtin,Builtin.len_,aQ he hx,run_underlying hT,goInt]⟩
theorem _root_.Int.beq_dec(p q:Int):(p==q)=decide (p=q):=by by_cases h:p=q<;>simp[h]
section ints
variable{x y:Operand}{T T':TypeId}{k:IntKind}{p q:Int}(hx:opv env x=some (.d (.v (.int k p))))(hy:opv env y=some (.d (.v (.int k q))))
include hx hy
theorem ga{c:Int}(hw:k.wrap (p+q)=c):Yields P env st ⟨dst, .binOp .add T x y T',ty,pos,after,guard⟩ (.d (.v (.int k c))):=λm φ a w _ he=>
 ⟨_,RAv,λw' _=>by simp[execOp,aQ he hx,aQ he hy,eqGuard,binOp,Op.intArith,hw]⟩
theorem y_sub{c:Int}(hw:k.wrap (p - q)=c):Yields P env st ⟨dst, .binOp .sub T x y T',ty,pos,after,guard⟩ (.d (.v (.int k c))):=λm φ a w _ he=>
 ⟨_,RAv,λw' _=>by simp[execOp,aQ he hx,aQ he hy,eqGuard,binOp,Op.intArith,hw]⟩
theorem y_mul{c:Int}(hw:k.wrap (p*q)=c):Yields P env st ⟨dst, .binOp .mul T x y T',ty,pos,after,guard⟩ (.d (.v (.int k c))):=λm φ a w _ he=>
 ⟨_,RAv,λw' _=>by simp[execOp,aQ he hx,aQ he hy,eqGuard,binOp,Op.intArith,hw]⟩
theorem y_quo{c:Int}(h0:q≠0)(hw:k.wrap (p.tdiv q)=c):Yields P env st ⟨dst, .binOp .quo T x y T',ty,pos,after,guard⟩ (.d (.v (.int k c))):=λm φ a w _ he=>
 ⟨_,RAv,λw' _=>by simp[execOp,aQ he hx,aQ he hy,eqGuard,binOp,Op.intDiv,h0,hw]⟩
theorem jB{c:Int}(hw:k.wrap (BitVec.ofInt k.bits p&&&BitVec.ofInt k.bits q).toNat=c):Yields P env st ⟨dst, .binOp .and T x y T',ty,pos,after,guard⟩ (.d (.v (.int k c))):=λm φ a w _ he=>
 ⟨_,RAv,λw' _=>by simp[execOp,aQ he hx,aQ he hy,eqGuard,binOp,Op.intBits,<-hw]⟩
theorem y_or{c:Int}(hw:k.wrap (BitVec.ofInt k.bits p|||BitVec.ofInt k.bits q).toNat=c):Yields P env st ⟨dst, .binOp .or T x y T',ty,pos,after,guard⟩ (.d (.v (.int k c))):=λm φ a w _ he=>
 ⟨_,RAv,λw' _=>by simp[execOp,aQ he hx,aQ he hy,eqGuard,binOp,Op.intBits,<-hw]⟩
theorem y_lss:Yields P env st ⟨dst, .binOp .lss T x y T',ty,pos,after,guard⟩ (.d (.v (.bool (decide (p<q))))):=λm φ a w _ he=>
 ⟨_,RAv,λw' _=>by simp[execOp,aQ he hx,aQ he hy,eqGuard,binOp,Op.intCmp]⟩
theorem y_leq:Yields P env st ⟨dst, .binOp .leq T x y T',ty,pos,after,guard⟩ (.d (.v (.bool (decide (p<=q))))):=λm φ a w _ he=>
 ⟨_,RAv,λw' _=>by simp[execOp,aQ he hx,aQ he hy,eqGuard,binOp,Op.intCmp]⟩
theorem y_gtr:Yields P env st ⟨dst, .binOp .gtr T x y T',ty,pos,after,guard⟩ (.d (.v (.bool (decide (p>q))))):=λm φ a w _ he=>
 ⟨_,RAv,λw' _=>by simp[execOp,aQ he hx,aQ he hy,eqGuard,binOp,Op.intCmp]⟩
theorem y_geq:Yields P env st ⟨dst, .binOp .geq T x y T',ty,pos,after,guard⟩ (.d (.v (.bool (decide (p>=q))))):=λm φ a w _ he=>
 ⟨_,RAv,λw' _=>by simp[execOp,aQ he hx,aQ he hy,eqGuard,binOp,Op.intCmp]⟩
theorem y_eql:Yields P env st ⟨dst, .binOp .eql T x y T',ty,pos,after,guard⟩ (.d (.v (.bool (decide (p=q))))):=λm φ a w _ he=>
 ⟨_,RAv,λw' _=>by simp[execOp,aQ he hx,aQ he hy,eqGuard,binOp,Op.intCmp,Int.beq_dec]⟩
theorem y_neq:Yields P env st ⟨dst, .binOp .neq T x y T',ty,pos,after,guard⟩ (.d (.v (.bool (!decide (p=q))))):=λm φ a w _ he=>
 ⟨_,RAv,λw' _=>by simp[execOp,aQ he hx,aQ he hy,eqGuard,binOp,Op.intCmp,bne,Int.beq_dec]⟩
end ints
theorem nL{x y:Operand}{T T':TypeId}{k k':IntKind}{p q:Int}(hx:opv env x=some (.d (.v (.int k p))))(hy:opv env y=some (.d (.v (.int k' q))))(h0:0<=q):Yields P env st ⟨dst, .binOp .shr T x y T',ty,pos,after,guard⟩ (.d (.v (.int k (p.fdiv (2^min q.toNat k.bits))))):=λm φ a w _ he=>
 ⟨_,RAv,λw' _=>by simp[execOp,aQ he hx,aQ he hy,eqGuard,binOp,Op.shift,show¬q<0 by omega]⟩
theorem y_not{x:Operand}{T:TypeId}{b:Bool}(hx:opv env x=some (.d (.v (.bool b)))):Yields P env st ⟨dst, .unOp .not T x,ty,pos,after,guard⟩ (.d (.v (.bool (!b)))):=λm φ a w _ he=>
 ⟨_,RAv,λw' _=>by simp[execOp,aQ he hx,Op.unary]⟩
theorem y_neg{x:Operand}{T:TypeId}{k:IntKind}{p c:Int}(hx:opv env x=some (.d (.v (.int k p))))(hw:k.wrap (0 - p)=c):Yields P env st ⟨dst, .unOp .neg T x,ty,pos,after,guard⟩ (.d (.v (.int k c))):=λm φ a w _ he=>
 ⟨_,RAv,λw' _=>by simp[execOp,aQ he hx,Op.unary,Op.intArith,<-hw]⟩
theorem vl{S T:TypeId}{x:Operand}{k k':IntKind}{p c:Int}{dS:TypeDesc}(hS:P.underlying S=some dS)(hT:P.underlying T=some (.int k'))(hx:opv env x=some (.d (.v (.int k p))))(hw:k'.wrap p=c):Yields P env st ⟨dst, .convert S T x,ty,pos,after,guard⟩ (.d (.v (.int k' c))):=λm φ a w _ he=>
 ⟨_,RAv,λw' _=>by simp[execOp,aQ he hx,convert,run_underlying hS,run_underlying hT,Conv.intToInt,hw]⟩
theorem y_eqs{x y:Operand}{T T':TypeId}{p q:ByteArray}(hx:opv env x=some (.d (.v (.string p))))(hy:opv env y=some (.d (.v (.string q)))):Yields P env st ⟨dst, .binOp .eql T x y T',ty,pos,after,guard⟩ (.d (.v (.bool (p.toList==q.toList)))):=λm φ a w _ he=>
 ⟨_,RAv,λw' _=>by simp[execOp,aQ he hx,aQ he hy,eqGuard,binOp,Op.stringOp]⟩
theorem y_nes{x y:Operand}{T T':TypeId}{p q:ByteArray}(hx:opv env x=some (.d (.v (.string p))))(hy:opv env y=some (.d (.v (.string q)))):Yields P env st ⟨dst, .binOp .neq T x y T',ty,pos,after,guard⟩ (.d (.v (.bool (!(p.toList==q.toList))))):=λm φ a w _ he=>
 ⟨_,RAv,λw' _=>by simp[execOp,aQ he hx,aQ he hy,eqGuard,binOp,Op.stringOp]⟩
end
end Go.Sk
namespace Go.Sk
open Go.RowKit (Below)
def AV.cells:AV->List AV
 | .d (.ag ps)=>ps.map .d
 | .ag ps=>ps
 |x=> [x]
def AV.okc:AV->Bool
 | .u=>false
 | .d (.v (.agg _))=>false
 | .d (.v (.tuple _))=>false
 | .d (.tu _)=>false
 | .tu _=>false
 | .os _ _=>false
 | .pe _ _ _=>false
 | .ow _ _ _ _ _=>false
 | .osf _ _ _=>false
 | .pem _ _ _ _=>false
 | .kv _ _=>false
 |_=>true
def AV.ok1:AV->Bool
 | .u=>false
 | .d (.v (.agg _))=>false
 | .d (.v (.tuple _))=>false
 | .d (.ag _)=>false
 | .d (.tu _)=>false
 | .ag _=>false
 | .tu _=>false
 | .os _ _=>false
 | .pe _ _ _=>false
 | .ow _ _ _ _ _=>false
 | .osf _ _ _=>false
 | .pem _ _ _ _=>false
 | .kv _ _=>false
 |_=>true
theorem wd{φ w}{x:D}{y:Value}(h:RD φ w x y)(hk:AV.ok1 (.d x)=true):y.oneCell'=true:=by
 cases x with
 |v z=>simp only[RD] at h;subst h;cases y<;>simp_all [AV.ok1,Value.oneCell']
 |sl es=>simp only[RD] at h;rcases h with⟨_,a,cp,rfl,_⟩|⟨b,off,k,cap,rfl,_⟩<;>rfl
 |pc ps=>simp only[RD] at h;obtain⟨b,off,rfl,_⟩:=h;rfl
 |ag ps=>simp[AV.ok1] at hk
 |tu ps=>simp[AV.ok1] at hk
 |ifc t z=>simp only[RD] at h;obtain⟨z,rfl,_⟩:=h;rfl
 |fnc f a b=>simp only[RD] at h;obtain⟨fs,cs,rfl,_⟩:=h;rfl
theorem p8{m φ w}{x:AV}{y:Value}(h:RA m φ w x y)(hk:x.ok1=true):y.oneCell'=true:=by
 cases x with
 |u=>simp[AV.ok1] at hk
 |d z=>simp only[RA] at h;exact wd h hk
 |ag ps=>simp[AV.ok1] at hk
 |pt id off=>simp only[RA] at h;obtain⟨b,_,rfl⟩:=h;rfl
 |sr id off len cap=>simp only[RA] at h;obtain⟨b,_,rfl⟩:=h;rfl
 |fn f first caps=>simp only[RA] at h;obtain⟨fs,cs,rfl,_⟩:=h;rfl
 |mp id=>simp only[RA] at h;obtain⟨b,_,rfl⟩:=h;rfl
 |tu l=>simp[AV.ok1] at hk
 |os id ver=>simp[AV.ok1] at hk
 |pe id ver off=>simp[AV.ok1] at hk
 |ow id ver off len lo=>simp[AV.ok1] at hk
 |fs es=>simp only[RA] at h;obtain⟨_,a,rfl⟩:=h;rfl
 |ifc t z=>simp only[RA] at h;obtain⟨z,rfl,_⟩:=h;rfl
 |osf id j ver=>simp[AV.ok1] at hk
 |pem id j ver off=>simp[AV.ok1] at hk
 |kv v z=>simp[AV.ok1] at hk
 |yl id=>simp only[RA] at h;obtain⟨b,_,rfl⟩:=h;rfl
theorem mC{y:Value}(h:y.oneCell'=true):y.cells= #[y]:=by cases y<;>simp_all [Value.oneCell',Value.cells]
theorem bz{m φ w}{x:AV}{y:Value}(h:RA m φ w x y)(hk:x.okc=true):∃vs,y.cells=⟨vs⟩/\RAs m φ w x.cells vs:=by
 have one:x.ok1=true->x.cells=[x]->∃vs,y.cells=⟨vs⟩/\RAs m φ w x.cells vs:=λh1 h2=>by
  rw[h2];exact⟨[y],mC (p8 h h1),aC h bB⟩
 cases x with
 |u=>simp[AV.okc] at hk
 |ag ps=>simp only[RA] at h;obtain⟨cs,rfl,h2⟩:=h;exact⟨cs,rfl,h2⟩
 |tu l=>simp[AV.okc] at hk
 |d z=>
  cases z with
  |v z=>exact one (by revert hk;cases z<;>simp[AV.okc,AV.ok1]) rfl
  |ag ps=>simp only[RA,RD] at h;obtain⟨cs,rfl,h2⟩:=h;exact⟨cs,rfl,bY h2⟩
  |tu ps=>simp[AV.okc] at hk
  |sl es=>exact one rfl rfl
  |pc ps=>exact one rfl rfl
  |ifc t z=>exact one rfl rfl
  |fnc f a b=>exact one rfl rfl
 |pt id off=>exact one rfl rfl
 |sr id off len cap=>exact one rfl rfl
 |fn f first caps=>exact one rfl rfl
 |mp id=>exact one rfl rfl
 |os id ver=>simp[AV.okc] at hk
 |pe id ver off=>simp[AV.okc] at hk
 |ow id ver off len lo=>simp[AV.okc] at hk
 |fs es=>exact one rfl rfl
 |ifc t z=>exact one rfl rfl
 |osf id j ver=>simp[AV.okc] at hk
 |pem id j ver off=>simp[AV.okc] at hk
 |kv v z=>simp[AV.okc] at hk
 |yl id=>exact one rfl rfl
theorem bx{w:World}{o:Obj}{b:Nat}(h:b<w.heap.size):(w.alloc o).heap[b]? =w.heap[b]? :=Go.RowKit.Below.heap_alloc w o b h
theorem Fz.alloc{m φ st w}(hs:SR m φ st w)(o:Obj):Fz φ w φ (w.alloc o):=λb off c h1 h2=>
 ⟨h1,by rw[cu (bx (bV hs h1))];exact h2⟩
theorem cN{α:Type}(l:List α)(x:α)(i:Nat):(l++ [x])[i]? =if i<l.length then l[i]? else if i=l.length then some x else none:=by by_cases h:i<l.length;rw[if_pos h,List.getElem?_append_left h];rw[if_neg h,List.getElem?_append_right oM];by_cases h2:i=l.length;subst h2;simp;rw[if_neg h2,List.getElem?_eq_none (by simp;omega)]
theorem cF{α:Type}{l:List α}{i:Nat}{x:α}(h:l[i]? =some x):i<l.length:=by
 rcases Nat.lt_or_ge i l.length with h'|h'
 exact h';simp[List.getElem?_eq_none h'] at h
theorem SR.push{m φ st w w'}{o:AO}{c:Cz}(hs:SR m φ st w)(hF:Fz φ w φ w')(hk:∀b,b<w.heap.size->w'.heap[b]? =w.heap[b]?)(hsz:w.heap.size<=w'.heap.size)
  (ho:OR (m++ [c]) φ w' o c)(hnew:∀b,c.has b->w.heap.size<=b)(hlv:o.live=true\/c= .non:=by first|exact .inl rfl|exact .inr rfl):SR (m++ [c]) φ (st++ [o]) w':=by
 refine⟨by simp[hs.len],λi o' c' h1 h2=>?_,λb hb=>hs.lt b (Nat.le_trans hsz hb),λi j oi oj ci cj b h1 h2 l1 l2 g1 g2 b1 b2=>?_,hs.gl.mono hF,λb ⟨i,d,h1,h2⟩=>?_⟩;rotate_right;rw[cN] at h1;split at h1;exact Nat.lt_of_lt_of_le (hs.nb b ⟨i,d,h1,h2⟩) hsz;split at h1;simp only[ao] at h1;subst h1;rcases hlv with h|h
 exact ho.block_lt h h2;subst h;exact h2.elim;cases h1;rw[cN] at h1 h2;by_cases hi:i<st.length;rw[if_pos hi] at h1;rw[if_pos (by rw[hs.len];exact hi)] at h2;have h:=hs.obj i o' c' h1 h2;cases hl:o'.live with
 |true=>exact h.congr (Pre.append m _) hF (λb hb=>⟨hk b (h.block_lt hl hb),rfl⟩)
 |false=>cases o'<;>first|trivial|exact h|(simp[AO.live] at hl;done)
 rw[if_neg hi] at h1;rw[if_neg (by rw[hs.len];exact hi)] at h2;by_cases hi2:i=st.length;rw[if_pos hi2] at h1;rw[if_pos (by rw[hs.len];exact hi2)] at h2;simp only[ao] at h1 h2;subst h1;subst h2;exact ho;rw[if_neg hi2] at h1;simp at h1;rw[cN] at h1 h2 g1 g2;have old:∀(i:Nat)(oi:AO)(ci:Cz),(if i<st.length then st[i]? else if i=st.length then some o else none)=some oi->oi.live=true->
   (if i<m.length then m[i]? else if i=m.length then some c else none)=some ci->ci.has b->(i<st.length/\st[i]? =some oi/\m[i]? =some ci/\b<w.heap.size)\/(i=st.length/\w.heap.size<=b):=by
  intro i oi ci h1 l1 g1 b1;by_cases hi:i<st.length;rw[if_pos hi] at h1;rw[if_pos (by rw[hs.len];exact hi)] at g1;exact .inl ⟨hi,h1,g1,(hs.obj i oi ci h1 g1).block_lt l1 b1⟩;rw[if_neg hi] at h1;rw[if_neg (by rw[hs.len];exact hi)] at g1;by_cases hi2:i=st.length;rw[if_pos (by rw[hs.len];exact hi2)] at g1;simp only[ao] at g1;subst g1;exact .inr ⟨hi2,hnew b b1⟩;rw[if_neg hi2] at h1;simp at h1
 rcases old i oi ci h1 l1 g1 b1 with⟨i1,i2,i3,i4⟩|⟨i1,i2⟩<;>rcases old j oj cj h2 l2 g2 b2 with⟨j1,j2,j3,j4⟩|⟨j1,j2⟩
 exact hs.inj i j oi oj ci cj b i2 j2 l1 l2 i3 j3 b1 b2;omega;omega;omega
theorem Ev.push{m φ st w w'}{c:Cz}(_hs:SR m φ st w)(hF:Fz φ w φ w')(hk:∀b,b<w.heap.size->w'.heap[b]? =w.heap[b]?)(hsz:w.heap.size<=w'.heap.size)
  (h1:w'.os=w.os)(h2:w'.tape=w.tape)(h3:w'.output=w.output)(hnew:∀b,c.has b->w.heap.size<=b):Ev m φ w (m++ [c]) φ w':=by
 refine⟨Pre.append m _,λb hb=>?_,h1,h2,h3,hsz,λb hb _=>⟨hk b hb,rfl⟩,hF⟩;obtain⟨i,c',g1,g2⟩:=hb;rw[cN] at g1;by_cases hi:i<m.length;rw[if_pos hi] at g1;exact .inl ⟨i,c',g1,g2⟩;rw[if_neg hi] at g1;by_cases hi2:i=m.length;rw[if_pos hi2] at g1;simp only[ao] at g1;subst g1;exact .inr (hnew b g2);rw[if_neg hi2] at g1;simp at g1
theorem mF{m φ st w}{T:TypeId}{xs:List AV}{vs:List Value}(hs:SR m φ st w)(h:RAs m φ w xs vs):
  Ev m φ w (m++ [.blk w.heap.size]) φ (w.alloc (.cells ⟨vs⟩ T))/\SR (m++ [.blk w.heap.size]) φ (st++ [.row T xs]) (w.alloc (.cells ⟨vs⟩ T))/\(m++ [Cz.blk w.heap.size])[st.length]? =some (.blk w.heap.size):=by
 have hF:=Fz.alloc hs (.cells ⟨vs⟩ T);have hk:∀b,b<w.heap.size->(w.alloc (.cells ⟨vs⟩ T)).heap[b]? =w.heap[b]? :=λb hb=>bx hb;have hnew:∀b,(Cz.blk w.heap.size).has b->w.heap.size<=b:=λb hb=>by simp only[Cz.has] at hb;omega
 refine⟨Ev.push hs hF hk sM rfl rfl rfl hnew,SR.push hs hF hk sM ?_ hnew,by rw[<-hs.len];simp⟩;exact⟨w.heap.size,rfl,hs.lt _ (Nat.le_refl _),vs,heap_alloc_new w _,RAs.mono (Pre.append m _) hF _ _ h⟩
section
variable{P:Program}{env:Env}{st:List AO}{dst:Option Tmp}{ty:TypeId}{pos:String}{after:Array Edge}{guard:Option (Nat×Bool)}
theorem b_box{T:TypeId}{x:Operand}{r:AV}(hx:opv env x=some r)(hk:r.okc=true):DoesB P env st ⟨dst, .box T x,ty,pos,after,guard⟩ (.pt st.length 0) (st++ [.row T r.cells]):=λm φ a w hs he=>by
 obtain⟨vs,h1,h2⟩:=bz (bc he hx) hk;obtain⟨h3,h4,h5⟩:=mF (T:=T) hs h2;exact⟨.pointer (some ⟨w.heap.size,0,none⟩),_,_,φ,by simp[execOp,Instr.box,newVar,newRow,h1],h3,h4,by simp only[RA];exact⟨_,h5,rfl⟩,(Below.refl _ _).alloc (Nat.le_refl _) _⟩
def aY(P:Program)(T:TypeId):Option (List Value):=((P.info? T).bind (·.zero)).map (·.cells.toList)
theorem dR{T:TypeId}{vs:List Value}(h:aY P T=some vs)(w:World):∃z,(zeroValue T).run P w= .ok z w/\z.cells=⟨vs⟩:=by
 unfold aY at h;cases hi:P.info? T with
 |none=>simp[hi] at h
 |some i=>
  cases hz:i.zero with
  |none=>simp[hi,hz] at h
  |some z=>simp only[hi,bnS,hz,Option.map_some,ao] at h;exact⟨z,by simp[zeroValue,typeInfo,hi,hz],by rw[<-h]⟩
theorem dN{m φ w}:∀vs:List Value,RAs m φ w (vs.map λv=> .d (.v v)) vs
 |[]=>by simp[RAs]
 |v::vs=>by simp only[List.map_cons];exact aC RAv (dN vs)
theorem ux{T:TypeId}{vs:List Value}(hz:aY P T=some vs):DoesB P env st ⟨dst, .alloc T,ty,pos,after,guard⟩ (.pt st.length 0) (st++ [.row T (vs.map λv=> .d (.v v))]):=λm φ a w hs he=>by
 obtain⟨z,h1,h2⟩:=dR hz w;obtain⟨h3,h4,h5⟩:=mF (T:=T) hs (dN (m:=m) (φ:=φ) (w:=w) vs);exact⟨.pointer (some ⟨w.heap.size,0,none⟩),_,_,φ,by simp[execOp,Instr.alloc,newVar,newRow,h1,h2],h3,h4,by simp only[RA];exact⟨_,h5,rfl⟩,(Below.refl _ _).alloc (Nat.le_refl _) _⟩
theorem cB{w:World}{g b:Nat}{cs:Array Value}(h:b≠g):(w.setRow g cs).heap[b]? =w.heap[b]? :=by simp only[World.setRow,Array.getElem?_modify];rw[if_neg oM]
theorem mS{m φ st w}{id:Nat}{T:TypeId}{xs ys:List AV}{b:Nat}{vs:List Value}(hs:SR m φ st w)(hi:st[id]? =some (.row T xs))(hb:m[id]? =some (.blk b))(h:RAs m φ w ys vs):
  Ev m φ w m φ (w.setRow b ⟨vs⟩)/\SR m φ (st.set id (.row T ys)) (w.setRow b ⟨vs⟩):=by
 obtain⟨b',hbb,h0,vs0,h1,h2⟩:=hs.obj id _ _ hi hb;simp only[Cz.blk.injEq] at hbb;subst hbb;have hF:Fz φ w φ (w.setRow b ⟨vs⟩):=λb2 off c g1 g2=>⟨g1,by
  have hne:b2≠b:=λe=>by subst e;omega
  rw[cu (cB hne)];exact g2⟩
 have hsz:(w.setRow b ⟨vs⟩).heap.size=w.heap.size:=size_setRow w b _;refine⟨⟨Pre.refl m,λ_ h=> .inl h,rfl,rfl,rfl,by rw[hsz];exact Nat.le_refl _,λb2 hb2 hn=>⟨cB (λe=>hn ⟨id,_,hb,by rw[e];rfl⟩),rfl⟩,hF⟩,⟨by simp[hs.len],λi o c g1 g2=>?_,λb2 hb2=>hs.lt b2 oM,λi j o o' c c' b2 g1 g2 l1 l2 k1 k2 e1 e2=>?_,hs.gl.mono hF,λb2 hb2=>by rw[hsz];exact hs.nb b2 hb2⟩⟩;by_cases hii:i=id;subst hii;rw[List.getElem?_set_self (cF hi)] at g1;rw[hb] at g2;simp only[ao] at g1 g2;subst g1;subst g2;exact⟨b,rfl,h0,vs,setRow_heap w b _ _ T (0,0) h1,RAs.mono (Pre.refl m) hF _ _ h⟩;rw[List.getElem?_set_ne (Ne.symm hii)] at g1;have h:=hs.obj i o c g1 g2;cases hl:o.live with
 |true=>refine h.congr (Pre.refl m) hF (λb2 hb2=>⟨cB λe=>?_,rfl⟩);subst e;exact hii (hs.inj i id o _ c _ b2 g1 hi hl rfl g2 hb hb2 rfl)
 |false=>cases o<;>first|trivial|exact h|(simp[AO.live] at hl;done)
 have back:∀(i:Nat)(o:AO),(st.set id (.row T ys))[i]? =some o->o.live=true->∃o2,st[i]? =some o2/\o2.live=true:=by intro i o g l;by_cases hii:i=id;subst hii;exact⟨_,hi,rfl⟩;rw[List.getElem?_set_ne (Ne.symm hii)] at g;exact⟨o,g,l⟩
 obtain⟨p,p1,p2⟩:=back i o g1 l1;obtain⟨q,q1,q2⟩:=back j o' g2 l2;exact hs.inj i j p q c c' b2 p1 q1 p2 q2 k1 k2 e1 e2
theorem iQ{m φ w}:∀{xs:List AV}{vs:List Value},RAs m φ w xs vs->xs.all AV.ok1=true->∀v∈vs,v.oneCell'=true
 |[],vs,h,_,v,hv=>by simp only[RAs] at h;subst h;simp at hv
 |x::xs,vs,h,hk,v,hv=>by
  simp only[RAs] at h;obtain⟨c,cs,rfl,h2,h3⟩:=h;simp only[List.all_cons,Bool.and_eq_true] at hk;rcases List.mem_cons.1 hv with rfl|hv
  exact p8 h2 hk.1;exact iQ h3 hk.2 v hv
theorem uo{T:TypeId}{x y:Operand}{id off n:Nat}{T':TypeId}{cs:List AV}{r:AV}{rs:List AV}(hx:opv env x=some (.pt id off))(hs:st[id]? =some (.row T' cs))(hy:opv env y=some r)(hk:r.okc=true)(hc:r.cells=rs)(hk1:rs.all AV.ok1=true)
  (hn:bn P T=some n)(hl:rs.length=n)(hlen:Nat.ble (off+n) cs.length=true):
  Does P env st ⟨dst, .store T x y,ty,pos,after,guard⟩ (.d (.v undef)) (st.set id (.row T' (cs.take off++rs++cs.drop (off+n)))):=λm φ a w hsr he=>by
 obtain⟨b,h1,h2⟩:=eZ he hx;obtain⟨b',hbb,_,vs,h3,h4⟩:=hsr.obj id _ _ hs h1;simp only[Cz.blk.injEq] at hbb;subst hbb;obtain⟨us,g1,g2⟩:=bz (bc he hy) hk;rw[hc] at g2;have hul:=aS g2;have hvl:=aS h4;have hle:=nbT hlen;have hst:=run_storeCells_at P b off T' us 0 ⟨vs⟩ w h3 (by simp;omega) (iQ g2 hk1);simp only[Nat.add_zero,hul,hl] at hst;have hnew:RAs m φ w (cs.take off++rs++cs.drop (off+n)) (vs.take off++us++vs.drop (off+n)):=aH (aH (bT off h4) g2) (cz _ h4);obtain⟨k1,k2⟩:=mS hsr hs h1 hnew;refine⟨undef,_,m,φ, .inr ⟨?_,rfl⟩,k1,k2,RAv⟩;have hsize:us.length=n:=oM;simp[execOp,Instr.storeAt,Instr.sureAddr,h2,storeVar,g1,ax hn,hsize,hst]
end
end Go.Sk
namespace Go.Sk
open Go.RowKit (Below)
def gn:Env->Env->Bool
 |[],_=>true
 |(t,_)::r,env=>(match env.get t with|none=>true|some _=>false)&&gn r env
theorem Env.get_append:∀(pre env:Env)(t:Nat),(pre++env).get t=match pre.get t with|some x=>some x|none=>env.get t
 |[],env,t=>by simp[Env.get]
 |(k,v)::r,env,t=>by
  simp only[List.cons_append,Env.get];cases Nat.beq t k with
  |true=>simp
  |false=>simpa using Env.get_append r env t
theorem ms:∀{pre env:Env}{t:Nat}{x:AV},gn pre env=true->env.get t=some x->pre.get t=none
 |[],env,t,x,_,_=>by simp[Env.get]
 |(k,v)::r,env,t,x,h,hx=>by
  simp only[gn,Bool.and_eq_true] at h;unfold Env.get;cases hb:Nat.beq t k with
  |true=>have:t=k:=nbE hb;subst this;rw[hx] at h;simp at h
  |false=>simpa using ms h.2 hx
section
variable{P:Program}{e:En}{ops:Array Oper}{env:Env}{st:List AO}{R:Env->List AO->Prop}{n:Nat}{RQ:Env->Prop}
theorem du{Q1 Q2:Exit->Act->World->Prop}(l2:List Oper)(hn:∀x a w,Q1 x a w->x= .normal/\d5 P ops Q2 l2 a w):∀(l1:List Oper)(a:Act)(w:World),d5 P ops Q1 l1 a w->d5 P ops Q2 (l1++l2) a w
 |[],a,w,h=>(hn _ _ _ h).2
 |o::l1,a,w,h=>by
  simp only[List.cons_append];unfold d5 at h⊢;split;rename_i hw;rw[if_pos hw] at h;rcases h with h|⟨l0,f0,t0,g0,b0,w0,h,hr⟩
  refine .inl ?_;unfold Oper.wp at h⊢;generalize(execOp a.eval o).run P w=r at h⊢;cases r with
  |ok nx w'=>
   cases nx with
   |value v=>exact du l2 hn l1 _ _ h
   |skip=>exact du l2 hn l1 _ _ h
   |defer d=>exact du l2 hn l1 _ _ h
   |enter f args=>
    refine Calls.mono h ?_;intro en w'' hh;cases en with
    |returned v=>exact du l2 hn l1 _ _ hh
    |panicked c=>exact absurd (hn _ _ _ hh).1 sM
    |outgrown=>obtain⟨a0,w0,h0⟩:=hh;exact absurd (hn _ _ _ h0).1 sM
   |row rw args=>exact Rows.mono h λv w'' hh=>du l2 hn l1 _ _ hh
   |_=>exact h.elim
  |halt hh w'=>
   cases hh with
   |panic v=>exact absurd (hn _ _ _ h).1 sM
   |_=>exact h.elim
  exact .inr ⟨l0,f0,t0,g0,b0,w0,h,hr.mono λen w2 ⟨v,he,hk⟩=>⟨v,he,du l2 hn l1 _ _ hk⟩⟩;rename_i hw;rw[if_neg hw] at h;exact du l2 hn l1 _ _ h
theorem fu{C:World->Prop}{Q1 Q2:Act->Prop}(l2:List Oper)(hn:∀a,Q1 a->wpQuiet P ops C Q2 l2 a):∀(l1:List Oper)(a:Act),wpQuiet P ops C Q1 l1 a->wpQuiet P ops C Q2 (l1++l2) a
 |[],a,h=>hn _ h
 |o::l1,a,h=>by
  simp only[List.cons_append];unfold wpQuiet at h⊢;split;rename_i hw;rw[if_pos hw] at h;exact Oper.quiet_mono (λa=>fu l2 hn l1 a) h;rename_i hw;rw[if_neg hw] at h;exact fu l2 hn l1 _ h
theorem WL.cut{l1 l2:List Oper}(J:Env->List AO->Prop)(h1:WL P e ops l1 env st J)(h2:∀env' st',J env' st'->WL P e ops l2 env' st' R):WL P e ops (l1++l2) env st R:=λm φ a w hi=>
 du l2 (λ_x a w ⟨hx,env',st',m',φ',hJ,hi'⟩=>⟨hx,h2 env' st' hJ m' φ' a w hi'⟩) l1 a w (h1 m φ a w hi)
theorem WQ.cut{l1 l2:List Oper}(J:Env->Prop)(h1:WQ P n ops l1 env st J)(h2:∀env',J env'->WQ P n ops l2 env' st RQ):WQ P n ops (l1++l2) env st RQ:=λm φ a w df hs he hz hd=>
 fu l2 (λa ⟨env',hJ,he',hz',hd'⟩=>h2 env' hJ m φ a w df hs he' hz' hd') l1 a (h1 m φ a w df hs he hz hd)
def GrpJ(env:Env)(t:Nat)(b:Bool)(d:Nat)(z:Bool)(env':Env):Prop:=∃pre,env'=pre++((t, .d (.v (.bool b)))::env)/\gn pre env=true/\pre.get d=some (.d (.v (.bool z)))
theorem GrpJ.sub{t d:Nat}{b z x:Bool}{env':Env}(h:GrpJ env t b d z env')(hx:env.get t=some (.d (.v (.bool x))))(hb:x=b):Sub ((d, .d (.v (.bool z)))::env) env':=by
 obtain⟨pre,rfl,h1,h2⟩:=h;subst hb;refine Sub.one (by rw[Env.get_append,h2]) (λs y hy=>?_);rw[Env.get_append,ms h1 hy];unfold Env.get;cases hb:Nat.beq s t with
 |true=>have:s=t:=nbE hb;subst this;rw[hx] at hy;exact⟨y,by simpa using hy,Le.refl y⟩
 |false=>exact⟨y,by simpa using hy,Le.refl y⟩
theorem WL.and(k:Nat){l:List Oper}{t d:Nat}{x y:Bool}(hx:env.get t=some (.d (.v (.bool x))))
  (h1:x=true->WL P e ops (l.take k) ((t, .d (.v (.bool true)))::env) st λenv' st'=>st'=st/\GrpJ env t true d y env')(h0:WL P e ops (l.take k) ((t, .d (.v (.bool false)))::env) st λenv' st'=>st'=st/\GrpJ env t false d false env')
  (hr:WL P e ops (l.drop k) ((d, .d (.v (.bool (x&&y))))::env) st R):WL P e ops l env st R:=by
 rw[<-List.take_append_drop k l];refine WL.cut (λenv' st'=>st'=st/\GrpJ env t x d (x&&y) env') ?_ ?_;cases x;exact WL.sub (Sub.one hx (Sub.refl env)) h0;exact WL.sub (Sub.one hx (Sub.refl env)) (h1 rfl);rintro env' st' ⟨rfl,hJ⟩;exact WL.sub (hJ.sub hx rfl) hr
theorem WL.or(k:Nat){l:List Oper}{t d:Nat}{x y:Bool}(hx:env.get t=some (.d (.v (.bool x))))
  (h1:x=false->WL P e ops (l.take k) ((t, .d (.v (.bool false)))::env) st λenv' st'=>st'=st/\GrpJ env t false d y env')(h0:WL P e ops (l.take k) ((t, .d (.v (.bool true)))::env) st λenv' st'=>st'=st/\GrpJ env t true d true env')
  (hr:WL P e ops (l.drop k) ((d, .d (.v (.bool (x||y))))::env) st R):WL P e ops l env st R:=by
 rw[<-List.take_append_drop k l];refine WL.cut (λenv' st'=>st'=st/\GrpJ env t x d (x||y) env') ?_ ?_;cases x;exact WL.sub (Sub.one hx (Sub.refl env)) (h1 rfl);exact WL.sub (Sub.one hx (Sub.refl env)) h0;rintro env' st' ⟨rfl,hJ⟩;exact WL.sub (hJ.sub hx rfl) hr
theorem WQ.sub{l:List Oper}{env':Env}(hs:Sub env' env)(h:WQ P n ops l env' st RQ):WQ P n ops l env st RQ:=λm φ a w df h1 h2 h3 h4=>h m φ a w df h1 (h2.sub hs) h3 h4
theorem WQ.or(k:Nat){l:List Oper}{t d:Nat}{x y:Bool}(hx:env.get t=some (.d (.v (.bool x))))
  (h1:x=false->WQ P n ops (l.take k) ((t, .d (.v (.bool false)))::env) st (GrpJ env t false d y))(h0:WQ P n ops (l.take k) ((t, .d (.v (.bool true)))::env) st (GrpJ env t true d true))
  (hr:WQ P n ops (l.drop k) ((d, .d (.v (.bool (x||y))))::env) st RQ):WQ P n ops l env st RQ:=by
 rw[<-List.take_append_drop k l];refine WQ.cut (GrpJ env t x d (x||y)) ?_ ?_;cases x;exact WQ.sub (Sub.one hx (Sub.refl env)) (h1 rfl);exact WQ.sub (Sub.one hx (Sub.refl env)) h0;intro env' hJ;exact WQ.sub (hJ.sub hx rfl) hr
theorem WQ.skip0{o:Oper}{l:List Oper}(hw:Wt ops env o false)(ho:o.dst=none)(h:WQ P n ops l env st RQ):WQ P n ops (o::l) env st RQ:=λm φ a w df hs he hz hdf=>by
 unfold wpQuiet;rw[if_neg (by simp[hw _ _ _ _ he]),ho];exact h m φ _ w df hs he hz hdf
theorem aK{k:Ko}{x y:Code}(J:Env->List AO->Prop)(h1:WC P e x (.lp J k) env st)(h2:∀env' st',J env' st'->WC P e y k env' st'):WC P e (.seq x y) k env st:=λm φ a w hi=>by
 refine wpIn_seq (wpIn_mono (h1 m φ a w hi) ?_);intro ex a' w' hq;cases ex with
 |normal=>obtain⟨env',st',m',φ',hJ,hi'⟩:=hq;exact h2 env' st' hJ m' φ' a' w' hi'
 |_=>exact hq
def rvS(tmps:Array Value)(rv:ResultVar):Sem Value:=match rv with| .tmp t=>pure (tmps.getD t undef)| .cell p T=>do loadVar T (<-asAddr (tmps.getD p undef))
theorem gZ(fn:Func)(tmps:Array Value):results fn tmps=(do let vs<-fn.results.mapM (rvS tmps);pure (if h:vs.size=1 then vs[0] else .tuple vs)):=rfl
def RV1(P:Program)(env:Env)(st:List AO)(rv:ResultVar)(r:AV):Prop:=
 ∀m φ a w,SR m φ st w->EnvOk m φ w env a->∃v,(rvS a.tmps rv).run P w= .ok v w/\RA m φ w r v
theorem bG{t:Nat}{x:AV}(hx:env.get t=some x):RV1 P env st (.tmp t) x:=λ_m _φ a _w _ he=>⟨a.tmps.getD t undef,rfl,he.getD hx⟩
theorem kx{p T id off:Nat}{T':TypeId}{cs:List AV}{r:AV}(hx:env.get p=some (.pt id off))(hs:st[id]? =some (.row T' cs))(hT:aW P T=some false)(hr:cs[off]? =some r):RV1 P env st (.cell p T) r:=λm φ a w hsr he=>by
 have h:=he.getD hx;simp only[RA] at h;obtain⟨b,h1,h2⟩:=h;obtain⟨b',hbb,_,vs,h3,h4⟩:=hsr.obj id _ _ hs h1;simp only[Cz.blk.injEq] at hbb;subst hbb;obtain⟨v,h5,h6⟩:=bQ h4 hr;refine⟨v,?_,h6⟩;have hc:w.cell? ⟨b,off,none⟩=some v:=by rw[iG h3,h5]
 simp[rvS,h2,asAddr,eb hT hc]
theorem fT{p T id off k:Nat}{T':TypeId}{cs:List AV}(hx:env.get p=some (.pt id off))(hs:st[id]? =some (.row T' cs))(hT:aW P T=some true)(hn:bn P T=some k)(hl:Nat.ble (off+k) cs.length=true):RV1 P env st (.cell p T) (.ag ((cs.drop off).take k)):=λm φ a w hsr he=>by
 have h:=he.getD hx;simp only[RA] at h;obtain⟨b,h1,h2⟩:=h;obtain⟨b',hbb,_,vs,h3,h4⟩:=hsr.obj id _ _ hs h1;simp only[Cz.blk.injEq] at hbb;subst hbb;have hlen:=aS h4;have hle:=nbT hl;refine⟨.agg ⟨(vs.drop off).take k⟩,?_,by simp only[RA];exact⟨_,rfl,bT k (cz off h4)⟩⟩;have:=ea (P:=P) (w:=w) (b:=b) (off:=off) (vs:=(vs.drop off).take k) hT hn (by simp;omega) (λj v hj=>by
  rw[iG h3];rw[List.getElem?_take] at hj;split at hj;simpa using hj;simp at hj)
 simp[rvS,h2,asAddr,this]
theorem rs1{fn:Func}{v:ResultVar}{r:AV}(h:fn.results= #[v])(hv:RV1 P env st v r):Res P fn env st r:=λm φ a w hs he=>by
 obtain⟨x,h1,h2⟩:=hv m φ a w hs he;refine⟨x,?_,h2⟩;simp[gZ,h,h1]
theorem rs2{fn:Func}{v u:ResultVar}{r s:AV}(h:fn.results= #[v,u])(hv:RV1 P env st v r)(hu:RV1 P env st u s):Res P fn env st (.tu [r,s]):=λm φ a w hs he=>by
 obtain⟨x,h1,h2⟩:=hv m φ a w hs he;obtain⟨y,h3,h4⟩:=hu m φ a w hs he;refine⟨.tuple #[x,y],?_,by simp only[RA];exact⟨[x,y],rfl,aC h2 (aC h4 bB)⟩⟩;simp[gZ,h,h1,h3]
theorem rs3{fn:Func}{v u z:ResultVar}{r s q:AV}(h:fn.results= #[v,u,z])(hv:RV1 P env st v r)(hu:RV1 P env st u s)(hz:RV1 P env st z q):Res P fn env st (.tu [r,s,q]):=λm φ a w hs he=>by
 obtain⟨x,h1,h2⟩:=hv m φ a w hs he;obtain⟨y,h3,h4⟩:=hu m φ a w hs he;obtain⟨y',h5,h6⟩:=hz m φ a w hs he;refine⟨.tuple #[x,y,y'],?_,by simp only[RA];exact⟨[x,y,y'],rfl,aC h2 (aC h4 (aC h6 bB))⟩⟩;simp[gZ,h,h1,h3,h5]
theorem wm{x y:D}(h:x=y):Le (.d x) (.d y):=h▸Le.refl _
end
end Go.Sk
namespace Go.Sk
open Go.RowKit (Below)
def jr(place:Nat->Option (Nat×Nat))(cells:List AV):List (Nat×AV)->Option (List AV)
 |[]=>some cells
 |(i,v)::rest=>
  match place i with
  |none=>none
  |some (off,size)=>
   bif Nat.beq v.cells.length size&&Nat.ble (off+v.cells.length) cells.length&&v.okc then jr place (cells.take off++(v.cells++cells.drop (off+size))) rest
   else none
theorem mt(off:Nat):∀(vs:List Value)(i:Nat)(cells:Array Value),off+i+vs.length<=cells.size->
  (vs.zipIdx i).foldl (λ(cs:Array Value)(x:Value×Nat)=>cs.setIfInBounds (off+x.2) x.1) cells=(cells.toList.take (off+i)++(vs++cells.toList.drop (off+i+vs.length))).toArray
 |[],i,cells,_=>sM
 |v::vs,i,cells,h=>by
  simp only[List.length_cons] at h;simp only[List.zipIdx_cons,List.foldl_cons];rw[mt off vs (i+1) _ (by rw[Array.size_setIfInBounds];omega)];congr 1;have e:=list_seg_step cells.toList (off+i) v vs (by rw[Array.length_toList];omega);simpa[Array.toList_setIfInBounds,Nat.add_assoc,Nat.add_comm,Nat.add_left_comm] using e
theorem jp{place:Nat->Option (Nat×Nat)}{cells:Array Value}{i off size:Nat}{v:Value}{rest:List (Nat×Value)}(hp:place i=some (off,size))(h1:v.cells.size=size)(h2:off+v.cells.size<=cells.size):
  Instr.fill place cells ((i,v)::rest)=Instr.fill place (cells.toList.take off++(v.cells.toList++cells.toList.drop (off+size))).toArray rest:=by
 have e:=mt off v.cells.toList 0 cells (by simpa using h2);have e2:v.cells.zipIdx=(v.cells.toList.zipIdx 0).toArray:=by apply Array.toList_inj.mp;simp
 conv=>lhs;unfold Instr.fill
 simp only[hp,e2];rw[if_neg (by simp;omega)];congr 1;simpa[h1] using e
theorem jq{m φ w}{place:Nat->Option (Nat×Nat)}:∀{parts:List (Nat×AV)}{pv:List (Nat×Value)}{cells cs:List AV}{vs:List Value},parts.map (·.1)=pv.map (·.1)->RAs m φ w (parts.map (·.2)) (pv.map (·.2))->
  RAs m φ w cells vs->jr place cells parts=some cs->∃us,Instr.fill place ⟨vs⟩ pv=some ⟨us⟩/\RAs m φ w cs us
 |[],pv,cells,cs,vs,hi,hv,hc,hf=>by
  simp only[jr,ao] at hf;subst hf;cases pv with
  |nil=>exact⟨vs,rfl,hc⟩
  |cons p pv=>simp at hi
 |(i,x)::parts,[],cells,cs,vs,hi,hv,hc,hf=>by simp at hi
 |(i,x)::parts,(i',v)::pv,cells,cs,vs,hi,hv,hc,hf=>by
  simp only[List.map_cons,List.cons.injEq] at hi;obtain⟨rfl,hi⟩:=hi;simp only[List.map_cons,RAs] at hv;obtain⟨c,cs',he,hx,hv⟩:=hv;simp only[List.cons.injEq] at he;obtain⟨rfl,rfl⟩:=he;unfold jr at hf;split at hf;cases hf;rename_i off size hp;cases hb:(Nat.beq x.cells.length size&&Nat.ble (off+x.cells.length) cells.length&&x.okc) with
  |false=>rw[hb] at hf;cases hf
  |true=>rw[hb] at hf;simp only[cdT] at hf;simp only[Bool.and_eq_true] at hb;obtain⟨⟨b1,b2⟩,b3⟩:=hb;have b1:=nbE b1;have b2:=nbT b2;obtain⟨us,g1,g2⟩:=bz hx b3;have l1:=aS g2;have l2:=aS hc;obtain⟨us',k1,k2⟩:=jq hi hv (aH (bT off hc) (aH g2 (cz (off+size) hc))) hf;refine⟨us',?_,k2⟩;rw[jp hp (by rw[g1];simp;omega) (by rw[g1];simp;omega)];rw[g1];simpa using k1
def bR(P:Program)(T:TypeId):Option (List (Nat×Nat)):=match P.underlying T with
 |some (.struct fs)=>fs.toList.mapM λf=>(bn P f.type).map λn=>(f.offset,n)
 |_=>none
section
variable{P:Program}{env:Env}{st:List AO}{dst:Option Tmp}{ty:TypeId}{pos:String}{after:Array Edge}{guard:Option (Nat×Bool)}
theorem eW{α β:Type}(f:α->Sem β)(g:α->Option β)(w:World):∀(l:List α)(r:List β),(∀a b,a∈l->g a=some b->(f a).run P w= .ok b w)->l.mapM g=some r->(l.mapM f).run P w= .ok r w
 |[],r,_,h=>by simp at h;subst h;simp
 |a::l,r,hfg,h=>by
  simp only[List.mapM_cons,Option.bind_eq_bind,Option.bind_eq_some_iff] at h;obtain⟨b,h1,rs,h2,h3⟩:=h;simp only[Option.pure_def,ao] at h3;subst h3;have:=eW f g w l rs (λa b ha=>hfg a b (by simp[ha])) h2;simp[List.mapM_cons,hfg a b sM h1,this]
theorem ir{m φ w}{a:Act}(he:EnvOk m φ w env a){parts:List (Nat×Operand)}{xs:List AV}(h:c4 env (parts.map (·.2))=some xs):RAs m φ w xs ((parts.map λ(i,x)=>(i,a.eval x)).map (·.2)):=by have:=gC he h;simpa[Function.comp_def] using this
def kg:List (Nat×Operand)->List AV->List (Nat×AV)
 |(i,_)::l,x::xs=>(i,x)::kg l xs
 |_,_=> []
theorem ic:∀{l:List (Nat×Operand)}{xs:List AV}{n:Nat},l.length=n->xs.length=n->(kg l xs).map (·.1)=l.map (·.1)/\(kg l xs).map (·.2)=xs
 |[],[],_,_,_=>by simp[kg]
 |[],_::_,_,h,k=>by simp at h;subst h;simp at k
 |_::_,[],_,h,k=>by simp at k;subst k;simp at h
 |(i,o)::l,x::xs,n,h,k=>by
  have:=ic (l:=l) (xs:=xs) (n:=n - 1) (by simp at h;omega) (by simp at k;omega);simp[kg,this.1,this.2]
theorem dZ:∀{l:List Operand}{xs:List AV},c4 env l=some xs->xs.length=l.length
 |[],xs,h=>by simp only[c4,ao] at h;subst h;rfl
 |x::l,xs,h=>by
  simp only[c4] at h;split at h;rename_i y ys h1 h2;simp only[ao] at h;subst h;simp[dZ h2];simp at h
theorem bg{T:TypeId}{parts:Array (Nat×Operand)}{pl:List (Nat×Nat)}{zs:List Value}{xs cs:List AV}(hp:bR P T=some pl)(hz:aY P T=some zs)(hx:c4 env (parts.toList.map (·.2))=some xs)
  (hf:jr (λi=>pl[i]?) (zs.map λv=> .d (.v v)) (kg parts.toList xs)=some cs):Yields P env st ⟨dst, .build T parts,ty,pos,after,guard⟩ (.ag cs):=λm φ a w hs he=>by
 have h1:=ir he hx;have hl:parts.toList.length=xs.length:=by have:=dZ hx;simpa using this.symm
 obtain⟨e1,e2⟩:=ic (l:=parts.toList) (xs:=xs) hl rfl;obtain⟨us,g1,g2⟩:=jq (m:=m) (φ:=φ) (w:=w) (parts:=kg parts.toList xs) (pv:=parts.toList.map λ(i,x)=>(i,a.eval x)) (by rw[e1];simp[Function.comp_def]) (by rw[e2];exact h1) (dN zs) hf;refine⟨.agg ⟨us⟩,by simp only[RA];exact⟨us,rfl,g2⟩,λw' hb=>?_⟩;obtain⟨z,z1,z2⟩:=dR hz w';unfold bR at hp;split at hp;rename_i fs hu;have hm:=eW (P:=P) (λf:Field=>(Prod.mk f.offset<$>sizeOf f.type:Sem (Nat×Nat))) (λf=>(bn P f.type).map λn=>(f.offset,n)) w' fs.toList pl (λf b _ hb=>by
  cases hsz:bn P f.type with
  |none=>simp[hsz] at hb
  |some n=>simp only[hsz,Option.map_some,ao] at hb;subst hb;simp[ax hsz]) hp
 have hm':(fs.mapM (λf:Field=>(Prod.mk f.offset<$>sizeOf f.type:Sem (Nat×Nat)))).run P w'= .ok pl.toArray w':=by rw[<-Array.toArray_toList (xs:=fs),List.mapM_toArray];simp[hm]
 simp[execOp,Instr.build,z1,run_underlying hu,hm',z2,g1];cases hp
theorem f'{T len n:Nat}{bb:Bool}{parts:Array (Nat×Operand)}{zs:List Value}{xs cs:List AV}(hp:eD P T=some (len,n,bb))(hz:aY P T=some zs)(hx:c4 env (parts.toList.map (·.2))=some xs)
  (hf:jr (λi=>some (i*n,n)) (zs.map λv=> .d (.v v)) (kg parts.toList xs)=some cs):Yields P env st ⟨dst, .build T parts,ty,pos,after,guard⟩ (.ag cs):=λm φ a w hs he=>by
 have h1:=ir he hx;have hl:parts.toList.length=xs.length:=by have:=dZ hx;simpa using this.symm
 obtain⟨e1,e2⟩:=ic (l:=parts.toList) (xs:=xs) hl rfl;obtain⟨us,g1,g2⟩:=jq (m:=m) (φ:=φ) (w:=w) (parts:=kg parts.toList xs) (pv:=parts.toList.map λ(i,x)=>(i,a.eval x)) (by rw[e1];simp[Function.comp_def]) (by rw[e2];exact h1) (dN zs) hf;refine⟨.agg ⟨us⟩,by simp only[RA];exact⟨us,rfl,g2⟩,λw' hb=>?_⟩;obtain⟨z,z1,z2⟩:=dR hz w';obtain⟨t,h2,h3,_⟩:=fJ hp;simp[execOp,Instr.build,z1,run_underlying h2,ax h3,z2,g1]
end
end Go.Sk
namespace Go.Sk
open Go.RowKit (Below)
def cW(P:Program)(T:TypeId):Option (Nat×Nat×Nat):=match P.underlying T with
 |some (.slice t)=>(P.info? t).map λi=>(t,i.size,i.bytes)
 |_=>none
theorem eC{P:Program}{T t k by_:Nat}(h:cW P T=some (t,k,by_)):∃i,P.underlying T=some (.slice t)/\P.info? t=some i/\i.size=k/\i.bytes=by_:=by
 unfold cW at h;split at h;rename_i t' hu;cases hi:P.info? t' with
 |none=>simp[hi] at h
 |some i=>simp only[hi,Option.map_some,ao,Prod.mk.injEq] at h;obtain⟨rfl,rfl,rfl⟩:=h;exact⟨i,hu,hi,rfl,rfl⟩
 cases h
theorem fX{P:Program}{t:Nat}{zs:List Value}{i:TypeInfo}(h:aY P t=some zs)(hi:P.info? t=some i):∃z,i.zero=some z/\z.cells=⟨zs⟩:=by
 unfold aY at h;cases hz:i.zero with
 |none=>simp[hi,hz] at h
 |some z=>simp only[hi,bnS,hz,Option.map_some,ao] at h;exact⟨z,rfl,by rw[<-h]⟩
theorem jT{P:Program}{w:World}{T e ty:TypeId}{k by_:Nat}{zs:List Value}(hT:cW P T=some (e,k,by_))(hz:aY P e=some zs)(hzl:zs.length=k)(hk:0<k)
  {v:Value}{n:Nat}{xs:List Value}(hown:w.ownsRow 0 e k v n xs){x:Value}{m:Nat}{news:List Value}(hl:news.length=m*k)(h1:∀u∈news,u.oneCell'=true)
  (hx:(x= .slice none 0 0/\m=0)\/∃a c,x= .slice (some a) m c/\∀j u,news[j]? =some u->w.cell? (Addr.add a j)=some u)
  (h63:n+m<=maxLen)(hby:(n+m)*by_<=140737488355328):
  ∃v' w',(Builtin.append_ #[T,T] ty #[v,x]).run P w= .ok v' w'/\w'.ownsRow 0 e k v' (n+m) (xs++news)/\w.grownBy w' v.ownBlock/\(v'.ownBlock=v.ownBlock\/v'.ownBlock=some w.heap.size):=by
 obtain⟨i,ht,hi,rfl,rfl⟩:=eC hT;obtain⟨z,hz1,hz2⟩:=fX hz hi;have hzs:z.cells.size=i.size:=by rw[hz2];simpa using hzl
 have hsmall:n+m<=9223372036854775807:=by simp only[maxLen] at h63;omega
 have hlen:(xs++news).length=(n+m)*i.size:=by rw[List.length_append,hown.1,hl,Nat.add_mul]
 rcases hx with⟨rfl,rfl⟩|⟨a,c,rfl,hnews⟩
 have hn:news=[]:=List.eq_nil_of_length_eq_zero (by simpa using hl);subst hn;refine⟨v,w,?_,by simpa using hown,⟨rfl,rfl,rfl,Nat.le_refl _,λ_ _ _=>rfl⟩, .inl rfl⟩;rcases hown.2 with⟨rfl,rfl⟩|⟨g,cap,cur,rfl,_,hg,hnc,_⟩
 simp[Builtin.append_,run_underlying ht,sizeOf,typeInfo,hi,Builtin.lenOf,Builtin.firstCells];simp[Builtin.append_,run_underlying ht,sizeOf,typeInfo,hi,Builtin.lenOf,Builtin.firstCells,hnc,storeCells];rcases hown.2 with⟨rfl,rfl⟩|⟨g,cap,cur,rfl,_,hg,hnc,hcm,hcs,htake⟩
 have hx:xs=[]:=List.eq_nil_of_length_eq_zero (by simpa using hown.1);subst hx;obtain⟨v',w',r1,r2,r3,_⟩:=run_append_own (P:=P) w w.heap.size T ty e i z i.size i.bytes ht hi hz1 rfl rfl hzs hk (.slice none 0 0) 0 [] (World.ownsRow_nil w _ e i.size) a m c news hl hnews h1 h63 hby (Nat.le_refl _);refine⟨v',w',r1,⟨r2.1,?_⟩,r3,?_⟩;rcases r2.2 with h|⟨g,cap,cur,h,_,h'⟩
 exact .inl h;exact .inr ⟨g,cap,cur,h,Nat.zero_le _,h'⟩;by_cases hm:m=0;subst hm;rcases r2.2 with⟨h,_⟩|⟨g,cap,cur,rfl,hb,hg',_⟩
 rw[h];exact .inl rfl;refine absurd r1 ?_;have hn:news=[]:=List.eq_nil_of_length_eq_zero (by simpa using hl);subst hn;simp[Builtin.append_,run_underlying ht,sizeOf,typeInfo,hi,Builtin.lenOf,Builtin.firstCells,loadCells,loadCellsFrom];right;have hr:=run_append_nil (P:=P) w T ty e i z ht hi hz1 a m c news hl hnews oM oM (by have hb:=hby;simp only[Nat.zero_add] at hb;omega);rw[hr] at r1;simp only[Result.ok.injEq] at r1;rw[<-r1.1];rfl;by_cases hroom:n+m<=cap;have hfit:n*i.size+news.length<=cur.size:=by rw[hl,hcs,<-Nat.add_mul];exact Nat.mul_le_mul_right _ hroom
 have hr:=run_append_room (P:=P) w T ty e i ht hi g n cap cur hg a m c news hl hnews h1 hroom hfit;obtain⟨v',w',r1,r2,r3,_⟩:=run_append_own (P:=P) w 0 T ty e i z i.size i.bytes ht hi hz1 rfl rfl hzs hk _ n xs hown a m c news hl hnews h1 h63 hby (Nat.zero_le _);refine⟨v',w',r1,r2,r3, .inl ?_⟩;rw[hr] at r1;simp only[Result.ok.injEq] at r1;rw[<-r1.1];rfl;have holds:∀j u,xs[j]? =some u->w.cell? ((⟨g,0,none⟩:Addr).add j)=some u:=hown.cells (g:=g) rfl;have hr:=run_append_grow (P:=P) w T ty e i z ht hi hz1 ⟨g,0,none⟩ n cap xs hown.1 holds a m c news hl hnews oM oM (growslice_fits oM hby);obtain⟨v',w',r1,r2,r3,_⟩:=run_append_own (P:=P) w 0 T ty e i z i.size i.bytes ht hi hz1 rfl rfl hzs hk _ n xs hown a m c news hl hnews h1 h63 hby (Nat.zero_le _);refine⟨v',w',r1,r2,r3, .inr ?_⟩;rw[hr] at r1;simp only[Result.ok.injEq] at r1;rw[<-r1.1];rfl
theorem dQ{m:List Cz}{φ φ':Nat->Nat}{st:List AO}{w w':World}{id:Nat}{o o':AO}{c c':Cz}(hs:SR m φ st w)(hi:st[id]? =some o)(hlive:o.live=true)(hc:m[id]? =some c)(hle:c.le c')
  (hos:w'.os=w.os)(htape:w'.tape=w.tape)(hout:w'.output=w.output)(hsize:w.heap.size<=w'.heap.size)
  (hk:∀b,b<w.heap.size->¬c.has b->w'.heap[b]? =w.heap[b]?/\φ' b=φ b)(hF:Fz φ w φ' w')(hlt:∀b,w'.heap.size<=b->φ' b=0)
  (hnew:∀b,c'.has b->c.has b\/w.heap.size<=b)(ho:OR (m.set id c') φ' w' o' c')(hlv:o'.live=true\/(∀b,c'.has b->c.has b):=by first|exact .inl rfl|exact .inr λ_ h=>h):
  Ev m φ w (m.set id c') φ' w'/\SR (m.set id c') φ' (st.set id o') w':=by
 have hlm:=cF hc;have hpre:Pre m (m.set id c'):=λi d hd=>by
  by_cases hii:i=id;subst hii;rw[hc] at hd;simp only[ao] at hd;subst hd;exact⟨c',by rw[List.getElem?_set_self hlm],hle⟩;exact⟨d,by rw[List.getElem?_set_ne (Ne.symm hii)];exact hd,Cz.le_refl d⟩
 refine⟨⟨hpre,λb hb=>?_,hos,htape,hout,hsize,λb hb hn=>hk b hb (λe=>hn ⟨id,c,hc,e⟩),hF⟩,⟨by simp[hs.len],λi p d h1 h2=>?_,hlt,λi j p q d d' b h1 h2 l1 l2 g1 g2 e1 e2=>?_,hs.gl.mono hF,λb ⟨i,d,h1,h2⟩=>?_⟩⟩;rotate_right;by_cases hii:i=id;subst hii;rw[List.getElem?_set_self hlm] at h1;simp only[ao] at h1;subst h1;rcases hlv with h|h
 exact ho.block_lt h h2;exact Nat.lt_of_lt_of_le (hs.nb b ⟨i,c,hc,h b h2⟩) hsize;rw[List.getElem?_set_ne (Ne.symm hii)] at h1;exact Nat.lt_of_lt_of_le (hs.nb b ⟨i,d,h1,h2⟩) hsize;obtain⟨i,d,h1,h2⟩:=hb;by_cases hii:i=id;subst hii;rw[List.getElem?_set_self hlm] at h1;simp only[ao] at h1;subst h1;rcases hnew b h2 with h|h
 exact .inl ⟨i,c,hc,h⟩;exact .inr h;rw[List.getElem?_set_ne (Ne.symm hii)] at h1;exact .inl ⟨i,d,h1,h2⟩;by_cases hii:i=id;subst hii;rw[List.getElem?_set_self hlm] at h2;rw[List.getElem?_set_self (cF hi)] at h1;simp only[ao] at h1 h2;subst h1;subst h2;exact ho;rw[List.getElem?_set_ne (Ne.symm hii)] at h1 h2;have h:=hs.obj i p d h1 h2;cases hl:p.live with
 |true=>refine h.congr hpre hF (λb hb=>hk b (h.block_lt hl hb) λe=>?_);exact hii (hs.inj i id p o d c b h1 hi hl hlive h2 hc hb e)
 |false=>cases p<;>first|trivial|exact h|(simp[AO.live] at hl;done)
 have back:∀(i:Nat)(p:AO)(d:Cz),(st.set id o')[i]? =some p->p.live=true->(m.set id c')[i]? =some d->d.has b->
   (i=id)\/(i≠id/\st[i]? =some p/\m[i]? =some d/\b<w.heap.size/\¬c'.has b):=by
  intro i p d h1 l1 g1 e1;by_cases hii:i=id;exact .inl hii;rw[List.getElem?_set_ne (Ne.symm hii)] at h1 g1;have hb:=(hs.obj i p d h1 g1).block_lt l1 e1;refine .inr ⟨hii,h1,g1,hb,λe=>?_⟩;rcases hnew b e with h|h
  exact hii (hs.inj i id p o d c b h1 hi l1 hlive g1 hc e1 h);omega
 have self:∀(i:Nat)(d:Cz),i=id->(m.set id c')[i]? =some d->d=c':=by intro i d h g;subst h;rw[List.getElem?_set_self hlm] at g;simpa using g.symm
 rcases back i p d h1 l1 g1 e1 with hi1|⟨hi1,hi2,hi3,hi4,hi5⟩<;>rcases back j q d' h2 l2 g2 e2 with hj1|⟨hj1,hj2,hj3,hj4,hj5⟩
 rw[hi1,hj1];have:=self i d hi1 g1;subst this;exact absurd e1 hj5;have:=self j d' hj1 g2;subst this;exact absurd e2 hi5;exact hs.inj i j p q d d' b hi2 hj2 l1 l2 hi3 hj3 e1 e2
theorem fm(v:Nat)(y y':Value):(Cz.tok v y).le (.tok (v+1) y'):= .inr ⟨v+1,y',rfl,Nat.lt_succ_self v⟩
section
variable{P:Program}{env:Env}{st:List AO}{dst:Option Tmp}{ty:TypeId}{pos:String}{after:Array Edge}{guard:Option (Nat×Bool)}
theorem mY{m φ w a}{x:Operand}{id ver:Nat}{T k:Nat}{es:List (List AV)}(hs:SR m φ st w)(he:EnvOk m φ w env a)(h:opv env x=some (.os id ver))(hi:st[id]? =some (.os T k ver es)):
  ∃y xs,m[id]? =some (.tok ver y)/\a.eval x=y/\w.ownsRow 0 T k y es.length xs/\RAs m φ w es.flatten xs/\(∀e∈es,e.length=k)/\∀b,y.ownBlock=some b->φ b=0:=by
 have h1:=bc he h;simp only[RA] at h1;obtain⟨v0,y0,g1,g2,g3⟩:=h1;have h2:=hs.obj id _ _ hi g1;obtain⟨y,xs,e1,r⟩:=h2;simp only[Cz.tok.injEq] at e1;obtain⟨rfl,rfl⟩:=e1;exact⟨y0,xs,g1,g3 rfl,r⟩
theorem nU{T n:Nat}{bb:Bool}{x:Operand}{id ver T' k:Nat}{es:List (List AV)}{c:Call}(hT:aP P T=some (n,bb))(hc:c=⟨.builtin .len, #[x], #[T]⟩)(hx:opv env x=some (.os id ver))(hi:st[id]? =some (.os T' k ver es)):
  Yields P env st ⟨dst, .call c,ty,pos,after,guard⟩ (.d (.v (.int .i64 es.length))):=λm φ a w hs he=>by
 obtain⟨y,xs,h1,h2,h3,_⟩:=mY hs he hx hi;obtain⟨t,g1,_,_⟩:=c9 hT;refine⟨_,RAv,λw' _=>?_⟩;subst hc;rcases h3.2 with⟨rfl,h⟩|⟨g,cap,cur,rfl,_⟩
 simp[execOp,resolve,invoke,builtin,Builtin.len_,h2,run_underlying g1,goInt,h];simp[execOp,resolve,invoke,builtin,Builtin.len_,h2,run_underlying g1,goInt]
theorem bm{T n:Nat}{bb:Bool}{x ix:Operand}{id ver T' k:Nat}{es:List (List AV)}{kk:IntKind}{i:Int}(hT:aP P T=some (n,bb))(hx:opv env x=some (.os id ver))(hs:st[id]? =some (.os T' k ver es))(hi:opv env ix=some (.d (.v (.int kk i))))
  (h0:0<=i)(h1:i<es.length):Yields P env st ⟨dst, .indexAddr T x ix,ty,pos,after,guard⟩ (.pe id ver (i.toNat*n)):=λm φ a w hsr he=>by
 obtain⟨y,xs,g1,g2,g3,_⟩:=mY hsr he hx hs;rcases g3.2 with⟨rfl,h⟩|⟨g,cap,cur,rfl,_⟩
 omega;refine⟨.pointer (some ⟨g,0+i.toNat*n,none⟩),by simp only[RA];exact⟨_,_,g1,Nat.le_refl _,λ_=>⟨g,_,cap,rfl,sM⟩⟩,λw' _=>?_⟩;simp[execOp,g2,aQ he hi,eH hT h0 h1]
theorem kC{m φ w a}{x:Operand}{id ver off:Nat}{T k:Nat}{es:List (List AV)}(hs:SR m φ st w)(he:EnvOk m φ w env a)(h:opv env x=some (.pe id ver off))(hi:st[id]? =some (.os T k ver es)):
  ∃b len cap xs,m[id]? =some (.tok ver (.slice (some ⟨b,0,none⟩) len cap))/\a.eval x= .pointer (some ⟨b,off,none⟩)/\w.ownsRow 0 T k (.slice (some ⟨b,0,none⟩) len cap) es.length xs/\RAs m φ w es.flatten xs/\(∀e∈es,e.length=k)/\φ b=0:=by
 have h1:=bc he h;simp only[RA] at h1;obtain⟨v0,y0,g1,g2,g3⟩:=h1;have h2:=hs.obj id _ _ hi g1;obtain⟨y,xs,e1,r1,r2,r3,r4⟩:=h2;simp only[Cz.tok.injEq] at e1;obtain⟨rfl,rfl⟩:=e1;obtain⟨b,len,cap,rfl,e2⟩:=g3 rfl;exact⟨b,len,cap,xs,g1,e2,r1,r2,r3,r4 b rfl⟩
theorem ec{w:World}{T k b len cap n:Nat}{xs:List Value}(h:w.ownsRow 0 T k (.slice (some ⟨b,0,none⟩) len cap) n xs){j:Nat}{u:Value}(hj:xs[j]? =some u):w.cell? ⟨b,j,none⟩=some u:=by have:=h.cells (g:=b) rfl j u hj;rw[cJ] at this;simpa using this
theorem kA{w:World}{T k b len cap n:Nat}{xs:List Value}(h:w.ownsRow 0 T k (.slice (some ⟨b,0,none⟩) len cap) n xs){j:Nat}{u:Value}(hj:xs[j]? =some u):w.rd b j=some u:=by
 refine ov (ec h hj) ?_;rcases h.2 with⟨e1,_⟩|⟨g,cap',cur,e1,_,hg,_⟩
 cases e1;simp only[Value.slice.injEq,ao,Addr.mk.injEq] at e1;obtain⟨⟨rfl,_,_⟩,_,_⟩:=e1;simp[World.frozen?,hg]
theorem cM{T:TypeId}{x:Operand}{id ver off T' k:Nat}{es:List (List AV)}{r:AV}(hx:opv env x=some (.pe id ver off))(hs:st[id]? =some (.os T' k ver es))(hT:aW P T=some false)(hr:es.flatten[off]? =some r):
  Yields P env st ⟨dst, .load T x,ty,pos,after,guard⟩ r:=λm φ a w hsr he=>by
 obtain⟨b,len,cap,xs,g1,g2,g3,g4,_⟩:=kC hsr he hx hs;obtain⟨v,h5,h6⟩:=bQ g4 hr;refine⟨v,h6,λw' hb=>?_⟩;have hlt:=(g3.lt b rfl).2;have hc:w'.cell? ⟨b,off,none⟩=some v:=by rw[dy (hb.block b hlt)];exact ec g3 h5
 simp[execOp,Instr.loadAt,Instr.sureAddr,g2,eb hT hc]
theorem pA{T:TypeId}{x:Operand}{id ver off T' k n:Nat}{es:List (List AV)}(hx:opv env x=some (.pe id ver off))(hs:st[id]? =some (.os T' k ver es))(hT:aW P T=some true)(hn:bn P T=some n)(hl:off+n<=es.flatten.length):
  Yields P env st ⟨dst, .load T x,ty,pos,after,guard⟩ (.ag ((es.flatten.drop off).take n)):=λm φ a w hsr he=>by
 obtain⟨b,len,cap,xs,g1,g2,g3,g4,_⟩:=kC hsr he hx hs;refine⟨.agg ⟨(xs.drop off).take n⟩,by simp only[RA];exact⟨_,rfl,bT n (cz off g4)⟩,λw' hb=>?_⟩;have hlt:=(g3.lt b rfl).2;have hlen:=aS g4;have:=ea (P:=P) (w:=w') (b:=b) (off:=off) (vs:=(xs.drop off).take n) hT hn (by simp;omega) (λj v hj=>by
  rw[dy (hb.block b hlt)];rw[List.getElem?_take] at hj;split at hj;exact ec g3 (by simpa using hj);simp at hj)
 simp[execOp,Instr.loadAt,Instr.sureAddr,g2,this]
theorem jW{m φ st w}{T k:Nat}(hs:SR m φ st w):Ev m φ w (m++ [.tok 0 (.slice none 0 0)]) φ w/\SR (m++ [.tok 0 (.slice none 0 0)]) φ (st++ [.os T k 0 []]) w:=by
 have hnew:∀b,(Cz.tok 0 (.slice none 0 0)).has b->w.heap.size<=b:=λb hb=>by simp[Cz.has,Value.ownBlock] at hb
 refine⟨Ev.push hs (Fz.refl φ w) (λ_ _=>rfl) (Nat.le_refl _) rfl rfl rfl hnew,SR.push hs (Fz.refl φ w) (λ_ _=>rfl) (Nat.le_refl _) ?_ hnew⟩;exact⟨_,[],rfl,World.ownsRow_nil w 0 T k,by simp[RAs],sM,λb hb=>by simp[Value.ownBlock] at hb⟩
end
section
variable{P:Program}{e:En}{ops:Array Oper}{env:Env}{st:List AO}{R:Env->List AO->Prop}{K:Ko}
theorem Inv.nil_os{m φ a w}{t T k:Nat}(hi:Inv e m φ env st a w)(ht:env.get t=some (.d (.v (.slice none 0 0)))):∃m',Inv e m' φ ((t, .os st.length 0)::env) (st++ [.os T k 0 []]) a w:=by
 obtain⟨h1,h2⟩:=jW (T:=T) (k:=k) hi.sr;have h3:=hi.go h1 h2;refine⟨_,h3.sr,h3.ev,⟨λs x hx=>?_,h3.env.gl⟩,h3.sz,h3.df⟩;unfold Env.get at hx;cases hb:Nat.beq s t with
 |true=>rw[hb] at hx;simp only[cdT,ao] at hx;subst hx;have:s=t:=nbE hb;subst this;obtain⟨v,g1,g2⟩:=hi.env s _ ht;simp only[RA,RD] at g2;subst g2;refine⟨_,g1,?_⟩;simp only[RA];exact⟨0,_,by rw[<-hi.sr.len];simp,Nat.le_refl _,λ_=>rfl⟩
 |false=>rw[hb] at hx;exact h3.env s x hx
theorem WL.nil_os{l:List Oper}(t T k:Nat)(ht:env.get t=some (.d (.v (.slice none 0 0))))(h:WL P e ops l ((t, .os st.length 0)::env) (st++ [.os T k 0 []]) R):WL P e ops l env st R:=λ_m φ a w hi=>
 let ⟨m',hi'⟩:=hi.nil_os (T:=T) (k:=k) ht
 h m' φ a w hi'
theorem dH{φ w b}:∀{ps:List D}{vs:List Value}{off:Nat},RFs φ w ps vs->(∀j v,vs[j]? =some v->off+j<φ b/\w.rd b (off+j)=some v)->RPs φ w ps b off
 |[],_,_,_,_=>by simp[RPs]
 |p::ps,vs,off,h,hc=>by
  simp only[RFs] at h;obtain⟨c,cs,rfl,h2,h3⟩:=h;simp only[RPs];have h0:=hc 0 c sM;exact⟨⟨by simpa using h0.1,c,by simpa using h0.2,h2⟩,dH h3 λj v hj=>by
   have:=hc (j+1) v (by simpa using hj);rw[show off+(j+1)=off+1+j from by omega] at this;exact this⟩
theorem fN{φ w b k}:∀{es:List (List D)}{vs:List Value}{off:Nat},(∀e∈es,e.length=k)->RFs φ w es.flatten vs->(∀j v,vs[j]? =some v->off+j<φ b/\w.rd b (off+j)=some v)->REs φ w es k b off
 |[],_,_,_,_,_=>by simp[REs]
 |e::es,vs,off,hl,h,hc=>by
  simp only[REs];have he:e.length=k:=hl e sM;have h1:RFs φ w e (vs.take k):=by have:=iN k h;simpa[he] using this
  have h2:RFs φ w es.flatten (vs.drop k):=by have:=lB k h;simpa[he] using this
  refine⟨dH h1 λj v hj=>?_,fN (λe' h'=>hl e' (by simp[h'])) h2 λj v hj=>?_⟩;rw[List.getElem?_take] at hj;split at hj;exact hc j v hj;simp at hj;have:=hc (k+j) v (by simpa using hj);rw[show off+(k+j)=off+k+j from by omega] at this;exact this
theorem fE{m φ st w}{id ver T k:Nat}{ds:List (List D)}{y:Value}(hs:SR m φ st w)(hi:st[id]? =some (.os T k ver (ds.map λe=>e.map AV.d)))(hc:m[id]? =some (.tok ver y)):
  ∃φ',Ev m φ w m φ' w/\SR m φ' (st.set id .dead) w/\RD φ' w (.sl ds) y/\∀b,y.ownBlock≠some b->φ' b=φ b:=by
 obtain⟨y',xs,e1,h1,h2,h3,h4⟩:=hs.obj id _ _ hi hc;simp only[Cz.tok.injEq,true_and] at e1;subst e1;have hfl:(ds.map λe=>e.map AV.d).flatten=ds.flatten.map AV.d:=by simp[List.map_flatten]
 rw[hfl] at h2;let φ':Nat->Nat:=λb=>if y.ownBlock=some b then ds.length*k else φ b
 have hF:Fz φ w φ' w:=λb off c g1 g2=>by
  refine⟨?_,g2⟩;show off<if y.ownBlock=some b then ds.length*k else φ b
  split;rename_i hb;have:=h4 b hb;omega;exact g1
 have hk:∀b,b<w.heap.size->¬(Cz.tok ver y).has b->w.heap[b]? =w.heap[b]?/\φ' b=φ b:=λb _ hb=>⟨rfl,if_neg hb⟩;have hlt:∀b,w.heap.size<=b->φ' b=0:=λb hb=>by
  show(if y.ownBlock=some b then ds.length*k else φ b)=0;split;rename_i hy;have:=(h1.lt b hy).2;omega;exact hs.lt b hb
 obtain⟨k1,k2⟩:=dQ (o':= .dead) (c':= .tok ver y) hs hi rfl hc (Cz.le_refl _) rfl rfl rfl (Nat.le_refl _) hk hF hlt (λb hb=> .inl hb) trivial;have hset:m.set id (.tok ver y)=m:=List.ext_getElem? λi=>by
  by_cases hii:i=id;subst hii;rw[List.getElem?_set_self (cF hc),hc];rw[List.getElem?_set_ne (Ne.symm hii)]
 rw[hset] at k1 k2;refine⟨φ',k1,k2,?_,λb hb=>if_neg hb⟩;have h2':RFs φ' w ds.flatten xs:=RFs.mono hF _ _ (bO h2);simp only[RD];have hlen:(ds.map λe=>e.map AV.d).length=ds.length:=sM;rw[hlen] at h1;rcases h1.2 with⟨rfl,hn⟩|⟨g,cap,cur,rfl,_,hg,hnc,_,_,_⟩
 exact .inl ⟨List.eq_nil_of_length_eq_zero hn,none,0,rfl,λ_=>rfl⟩;refine .inr ⟨g,0,k,cap,rfl,hnc,λe he=>?_,fN (λe he=>?_) h2' λj v hj=>⟨?_,?_⟩⟩;have:=h3 (e.map AV.d) (List.mem_map_of_mem he);simpa using this;have:=h3 (e.map AV.d) (List.mem_map_of_mem he);simpa using this;show 0+j<if(Value.slice (some ⟨g,0,none⟩) ds.length cap).ownBlock=some g then ds.length*k else φ g
 rw[if_pos (show(Value.slice (some ⟨g,0,none⟩) ds.length cap).ownBlock=some g from rfl)];have:=cF hj;have:=h1.1;omega;have:=kA h1 hj;simpa using this
theorem gG{m φ st w}{id ver T k:Nat}{ds:List (List D)}{y:Value}(hs:SR m φ st w)(hi:st[id]? =some (.os T k ver (ds.map λe=>e.map AV.d)))(hc:m[id]? =some (.tok ver y)):
  ∃φ',Ev m φ w m φ' w/\SR m φ' (st.set id .dead) w/\RD φ' w (.sl ds) y:=
 let ⟨φ',h1,h2,h3,_⟩:=fE hs hi hc
 ⟨φ',h1,h2,h3⟩
theorem Inv.freeze{m φ a w}{t id ver T k:Nat}{ds:List (List D)}(hi:Inv e m φ env st a w)(ht:env.get t=some (.os id ver))(hs:st[id]? =some (.os T k ver (ds.map λe=>e.map AV.d))):∃φ',Inv e m φ' ((t, .d (.sl ds))::env) (st.set id .dead) a w:=by
 obtain⟨v,g1,g2⟩:=hi.env t _ ht;simp only[RA] at g2;obtain⟨v0,y0,k1,k2,k3⟩:=g2;obtain⟨y',xs,e1,_⟩:=hi.sr.obj id _ _ hs k1;simp only[Cz.tok.injEq] at e1;obtain⟨rfl,rfl⟩:=e1;obtain⟨φ',f1,f2,f3⟩:=gG hi.sr hs k1;have h3:=hi.go f1 f2;have hv:=k3 rfl;subst hv;refine⟨φ',h3.sr,h3.ev,⟨λs x hx=>?_,h3.env.gl⟩,h3.sz,h3.df⟩;unfold Env.get at hx;cases hb:Nat.beq s t with
 |true=>rw[hb] at hx;simp only[cdT,ao] at hx;subst hx;have:s=t:=nbE hb;subst this;exact⟨_,g1,by simpa[RA] using f3⟩
 |false=>rw[hb] at hx;exact h3.env s x hx
theorem WL.freeze{l:List Oper}(t:Nat){id ver T k:Nat}(ds:List (List D)){es:List (List AV)}(ht:env.get t=some (.os id ver))(hs:st[id]? =some (.os T k ver es))(hes:es=ds.map λe=>e.map AV.d)(h:WL P e ops l ((t, .d (.sl ds))::env) (st.set id .dead) R):WL P e ops l env st R:=λm φ a w hi=>by
 subst hes;obtain⟨φ',hi'⟩:=hi.freeze ht hs;exact h m φ' a w hi'
end
end Go.Sk
namespace Go.Sk
open Go.RowKit (Below)
section
variable{P:Program}{env:Env}{st:List AO}{dst:Option Tmp}{ty:TypeId}{pos:String}{after:Array Edge}{guard:Option (Nat×Bool)}
def Src(st:List AO)(x:AV)(k:Nat)(fs:List (List AV)):Prop:=
 ∀m φ w v,SR m φ st w->RA m φ w x v->∃news:List Value,RAs m φ w fs.flatten news/\news.length=fs.length*k/\
  ((v= .slice none 0 0/\fs.length=0)\/∃a c,v= .slice (some a) fs.length c/\∀j u,news[j]? =some u->w.cell? (Addr.add a j)=some u)
theorem mJ{φ w k b}:∀{es:List (List D)}{off:Nat},REs φ w es k b off->(∀e∈es,e.length=k)->∃vs,RFs φ w es.flatten vs/\vs.length=es.length*k/\∀j v,vs[j]? =some v->w.cell? ⟨b,off+j,none⟩=some v
 |[],off,_,_=>⟨[],by simp[RFs],sM,λj v h=>by simp at h⟩
 |e::es,off,h,hl=>by
  simp only[REs] at h;obtain⟨vs,h1,h2⟩:=jw h.1;obtain⟨us,h3,h4,h5⟩:=mJ h.2 (λe he=>hl e (by simp[he]));have hle:=fM h1;have he:e.length=k:=hl e sM;have app:∀{xs:List D}{vs:List Value}{ys:List D}{us:List Value},RFs φ w xs vs->RFs φ w ys us->RFs φ w (xs++ys) (vs++us):=by intro xs vs ys us hx hy;have:=aH (m:=[]) (bY hx) (bY hy);rw[<-List.map_append] at this;exact bO this
  refine⟨vs++us,by simpa using app h1 h3,by simp only[List.length_append,List.length_cons,Nat.succ_mul];omega,λj v hj=>?_⟩;by_cases hjl:j<vs.length;rw[List.getElem?_append_left hjl] at hj;exact ip (h2 j v hj).2;rw[List.getElem?_append_right oM] at hj;have:=h5 _ v hj;rw[show off+j=off+k+(j - vs.length) from by omega];exact this
theorem Src.data{xr:AV}{ds:List (List D)}{k:Nat}(hl:Le xr (.d (.sl ds)))(hk:∀e∈ds,e.length=k):Src st xr k (ds.map λe=>e.map AV.d):=λm φ w v hs h=>by
 have h1:=hl _ _ _ _ h;simp only[RA,RD] at h1;have hfl:(ds.map λe=>e.map AV.d).flatten=ds.flatten.map AV.d:=by simp[List.map_flatten]
 rcases h1 with⟨rfl,a,cp,rfl,hz⟩|⟨b,off,k',cap,rfl,h2,h3,h4⟩
 cases a with
 |none=>exact⟨[],by simp[RAs],sM, .inl ⟨by rw[hz rfl],rfl⟩⟩
 |some a=>exact⟨[],by simp[RAs],sM, .inr ⟨a,cp,rfl,λj u hj=>by simp at hj⟩⟩
 cases ds with
 |nil=>exact⟨[],by simp[RAs],sM, .inr ⟨_,cap,rfl,λj u hj=>by simp at hj⟩⟩
 |cons d ds=>
  have hkk:k'=k:=by rw[<-h3 d sM,hk d sM]
  subst hkk;obtain⟨vs,g1,g2,g3⟩:=mJ h4 h3;refine⟨vs,by rw[hfl];exact bY g1,by simpa using g2, .inr ⟨⟨b,off,none⟩,cap,sM,λj u hj=>by rw[cJ];exact g3 j u hj⟩⟩
theorem Src.own{id ver T k:Nat}{fs:List (List AV)}(hi:st[id]? =some (.os T k ver fs)):Src st (.os id ver) k fs:=λm φ w v hs h=>by
 simp only[RA] at h;obtain⟨v0,y0,g1,_,g3⟩:=h;obtain⟨y,xs,e1,h1,h2,h3,h4⟩:=hs.obj id _ _ hi g1;simp only[Cz.tok.injEq] at e1;obtain⟨rfl,rfl⟩:=e1;have:=g3 rfl;subst this;refine⟨xs,h2,h1.1,?_⟩;rcases h1.2 with⟨rfl,hn⟩|⟨g,cap,cur,rfl,_⟩
 exact .inl ⟨rfl,hn⟩;exact .inr ⟨_,cap,rfl,λj u hj=>h1.cells (g:=g) rfl j u hj⟩
theorem te{T _T' e k by_:Nat}{zs:List Value}{s x:Operand}{id ver:Nat}{es fs:List (List AV)}{xr:AV}{c:Call}(hT:cW P T=some (e,k,by_))(hz:aY P e=some zs)(hzl:zs.length=k)(hk:0<k)
  (hc:c=⟨.builtin .append, #[s,x], #[T,T]⟩)(hs:opv env s=some (.os id ver))(hi:st[id]? =some (.os e k ver es))(hx:opv env x=some xr)(hsrc:Src st xr k fs)(hf1:fs.flatten.all AV.ok1=true)(hfk:∀f∈fs,f.length=k)
  (h63:es.length+fs.length<=maxLen)(hby:(es.length+fs.length)*by_<=140737488355328):
  Does P env st ⟨dst, .call c,ty,pos,after,guard⟩ (.os id (ver+1)) (st.set id (.os e k (ver+1) (es++fs))):=λm φ a w hsr he=>by
 obtain⟨y,xs,g1,g2,g3,g4,g5,g6⟩:=mY hsr he hs hi;obtain⟨news,n1,n2,n3⟩:=hsrc m φ w _ hsr (bc he hx);obtain⟨v',w',r1,r2,r3,r4⟩:=jT (P:=P) (ty:=ty) hT hz hzl hk g3 n2 (iQ n1 hf1) n3 h63 hby;have hF:Fz φ w φ w':=λb off cc q1 q2=>⟨q1,by
  have hlt:=bV hsr q1;have hne:some b≠y.ownBlock:=λe=>by have:=g6 b e.symm;omega
  rw[cu (r3.block b hlt hne)];exact q2⟩
 have hobj:OR (m.set id (.tok (ver+1) v')) φ w' (.os e k (ver+1) (es++fs)) (.tok (ver+1) v'):=by
  have hpre:Pre m (m.set id (.tok (ver+1) v')):=λi d hd=>by
   by_cases hii:i=id;subst hii;rw[g1] at hd;simp only[ao] at hd;subst hd;exact⟨_,by rw[List.getElem?_set_self (cF g1)],fm _ _ _⟩;exact⟨d,by rw[List.getElem?_set_ne (Ne.symm hii)];exact hd,Cz.le_refl d⟩
  refine⟨v',xs++news,rfl,by rw[List.length_append];exact r2,?_,λf hf=>?_,λb hb=>?_⟩;rw[List.flatten_append];exact aH (RAs.mono hpre hF _ _ g4) (RAs.mono hpre hF _ _ n1);rcases List.mem_append.1 hf with h|h
  exact g5 f h;exact hfk f h;rcases r4 with h|h
  exact g6 b (by rw[<-h];exact hb);rw[h] at hb;simp only[ao] at hb;exact hsr.lt b oM
 obtain⟨k1,k2⟩:=dQ (o':= .os e k (ver+1) (es++fs)) (c':= .tok (ver+1) v') (φ':=φ) hsr hi rfl g1 (fm _ _ _) r3.os r3.tape r3.output r3.size
  (λb hb hn=>⟨r3.block b hb (λe=>hn (by simp[Cz.has,<-e])),rfl⟩) hF (λb hb=>hsr.lt b (Nat.le_trans r3.size hb))
  (λb hb=>by
   rcases r4 with h|h
   exact .inl (by simpa[Cz.has,h] using hb);right;simp only[Cz.has,h,ao] at hb;omega) hobj
 refine⟨v',w',_,φ, .inl ?_,k1,k2,?_⟩;subst hc;simp[execOp,resolve,invoke,builtin,g2,r1];simp only[RA];exact⟨ver+1,v',by rw[List.getElem?_set_self (cF g1)],Nat.le_refl _,λ_=>rfl⟩
theorem q'{α:Type}(A B C:List α):(A++(B++C)).take (A.length+B.length)=A++B:=by rw[<-List.append_assoc,<-List.length_append,List.take_left]
theorem rq{α:Type}(A B C:List α)(n:Nat):(A++(B++C)).drop (A.length+B.length+n)=C.drop n:=by rw[<-List.append_assoc,<-List.length_append,List.drop_append,List.drop_of_length_le oM];simp
theorem oS{k:Nat}:∀(vss:List Value)(i:Nat)(cells:Array Value),(∀v∈vss,v.cells.size=k)->(i+vss.length)*k<=cells.size->
  Instr.fill (λi=>some (i*k,k)) cells ((vss.zipIdx i).map λ(v,j)=>(j,v))=some (cells.toList.take (i*k)++((vss.map (·.cells.toList)).flatten++cells.toList.drop ((i+vss.length)*k))).toArray
 |[],i,cells,_,_=>by simp[Instr.fill]
 |v::vss,i,cells,h1,h2=>by
  have hv:=h1 v sM;simp only[List.zipIdx_cons,List.map_cons];have e1:(i+(v::vss).length)*k=i*k+(k+vss.length*k):=by simp only[List.length_cons];rw[Nat.add_mul,Nat.succ_mul];omega
  rw[e1] at h2;rw[jp (off:=i*k) (size:=k) rfl hv oM];have hL:(cells.toList.take (i*k)++(v.cells.toList++cells.toList.drop (i*k+k))).length=cells.size:=by simp;omega
  have e2:(i+1+vss.length)*k=i*k+(k+vss.length*k):=by rw[Nat.add_mul,Nat.add_mul];omega
  rw[oS vss (i+1) _ (λv hv=>h1 v (by simp[hv])) (by rw[e2,List.size_toArray,hL];omega)];congr 2;rw[e1,e2];have e3:(i+1)*k=i*k+k:=by rw[Nat.succ_mul]
  rw[e3];have hv':v.cells.toList.length=k:=by simpa using hv
  have t1:(cells.toList.take (i*k)).length=i*k:=by simp;omega
  have a1:=q' (cells.toList.take (i*k)) v.cells.toList (cells.toList.drop (i*k+k));have a2:=rq (cells.toList.take (i*k)) v.cells.toList (cells.toList.drop (i*k+k)) (vss.length*k);rw[t1,hv'] at a1 a2;rw[show i*k+(k+vss.length*k)=i*k+k+vss.length*k from by omega,a1,a2,List.drop_drop];simp
theorem gV{m φ w k}:∀{xs:List AV}{vs:List Value},RAs m φ w xs vs->(xs.all λx=>x.okc&&Nat.beq x.cells.length k)=true->(∀v∈vs,v.cells.size=k)/\RAs m φ w (xs.map AV.cells).flatten (vs.map (·.cells.toList)).flatten
 |[],vs,h,_=>by simp only[RAs] at h;subst h;simp[RAs]
 |x::xs,vs,h,hk=>by
  simp only[RAs] at h;obtain⟨c,cs,rfl,h2,h3⟩:=h;simp only[List.all_cons,Bool.and_eq_true] at hk;obtain⟨⟨k1,k2⟩,k3⟩:=hk;have k2:=nbE k2;obtain⟨us,g1,g2⟩:=bz h2 k1;obtain⟨i1,i2⟩:=gV h3 k3;have hl:=aS g2;refine⟨λv hv=>?_,?_⟩;rcases List.mem_cons.1 hv with rfl|hv
  rw[g1];simp;omega;exact i1 v hv;simp only[List.map_cons,List.flatten_cons,g1];exact aH g2 i2
theorem ke{α _β γ:Type}(l:List (Nat×α))(f:α->γ)(h:l.map (·.1)=List.range l.length):l.map (λ(i,x)=>(i,f x))=((l.map λp=>f p.2).zipIdx 0).map λ(v,j)=>(j,v):=by
 apply List.ext_getElem?;intro n;simp only[List.getElem?_map,List.getElem?_zipIdx,Nat.zero_add];have hn:=congrArg (λl=>l[n]?) h;simp only[List.getElem?_map] at hn;cases hl:l[n]? with
 |none=>simp
 |some p=>simp only[hl,Option.map_some] at hn⊢;have hlt:=cF hl;rw[List.getElem?_range hlt] at hn;simp only[ao] at hn;simp[hn]
def NewOs(P:Program)(env:Env)(st:List AO)(o:Oper)(T k:Nat)(es:List (List AV)):Prop:=
 ∀m φ a w,SR m φ st w->EnvOk m φ w env a->∃v w',(execOp a.eval o).run P w= .ok (.value v) w'/\Ev m φ w (m++ [.tok 0 v]) φ w'/\SR (m++ [.tok 0 v]) φ (st++ [.os T k 0 es]) w'/\
  Below w.heap.size w w'/\∀b,v.ownBlock=some b->w.heap.size<=b
theorem NewOs.b{o:Oper}{T k:Nat}{es:List (List AV)}(h:NewOs P env st o T k es):DoesB P env st o (.os st.length 0) (st++ [.os T k 0 es]):=λm φ a w hs he=>by
 obtain⟨v,w',h1,h2,h3,h4,_⟩:=h m φ a w hs he;exact⟨v,w',_,φ,h1,h2,h3,by simp only[RA];exact⟨0,_,by rw[<-hs.len];simp,Nat.le_refl _,λ_=>rfl⟩,h4⟩
theorem NewOs.data{o:Oper}{T k:Nat}{es:List (List AV)}{ds:List (List D)}(h:NewOs P env st o T k es)(hes:es=ds.map λe=>e.map AV.d):DoesB P env st o (.d (.sl ds)) st:=λm φ a w hs he=>by
 subst hes;obtain⟨v,w',h1,h2,h3,h4,h5⟩:=h m φ a w hs he;obtain⟨φ',k1,k2,k3,k4⟩:=fE (id:=st.length) (ver:=0) (T:=T) (k:=k) (ds:=ds) (y:=v) h3 sM (by rw[<-hs.len];simp);have hk:∀b,b<w.heap.size->w'.heap[b]? =w.heap[b]?/\φ' b=φ b:=λb hb=>⟨h4.block b hb,k4 b (λhv=>by have:=h5 b hv;omega)⟩;have hF:=h2.fz.trans k1.fz;refine⟨v,w',m,φ',h1,⟨Pre.refl m,λ_ h=> .inl h,h4.os,h4.tape,h4.output,h4.size,λb hb _=>hk b hb,hF⟩,hs.of_keep hk hF k2.lt,by simpa[RA] using k3,h4⟩
theorem ah{T e k by_ len:Nat}{zs:List Value}{parts:Array (Nat×Operand)}{xs:List AV}(hT:cW P T=some (e,k,by_))(hz:aY P e=some zs)(hzl:zs.length=k)(hlen:len*k<=16777216)(h0:0<len*k)(hidx:parts.toList.map (·.1)=List.range len)
  (hx:c4 env (parts.toList.map (·.2))=some xs)(hok:(xs.all λx=>x.okc&&Nat.beq x.cells.length k)=true)(hm:len<=maxLen):
  NewOs P env st ⟨dst, .buildSlice T len parts,ty,pos,after,guard⟩ e k (xs.map AV.cells):=λm φ a w hs he=>by
 obtain⟨i,ht,hi,rfl,rfl⟩:=eC hT;obtain⟨z,hz1,hz2⟩:=fX hz hi;have hpl:parts.toList.length=len:=by have:=congrArg List.length hidx;simpa using this
 have hxl:xs.length=len:=by have:=dZ hx;simp at this hpl;omega
 have h1:=ir he hx;obtain⟨c1,c2⟩:=gV h1 hok;let vss:List Value:=(parts.toList.map λ(j,x)=>(j,a.eval x)).map (·.2);have hvl:vss.length=len:=by simp[vss];simpa using hpl
 let cells0:Array Value:=(Array.range (len*i.size)).map (z.cells[·%z.cells.size]!);have hc0:cells0.size=len*i.size:=by simp[cells0]
 have hfill:Instr.fill (λj=>some (j*i.size,i.size)) cells0 (parts.toList.map λ(j,x)=>(j,a.eval x))=some (vss.map (·.cells.toList)).flatten.toArray:=by
  have e:=ke (_β:=Unit) parts.toList a.eval (by rw[hidx,hpl]);rw[e];have e3:(parts.toList.map λp=>a.eval p.2)=vss:=by simp[vss]
  rw[e3,oS vss 0 cells0 c1 (by rw[hc0,hvl];simp)];simp[hvl,List.drop_of_length_le,hc0]
 have hn:¬(16777216<len*i.size):=oM;have h00:¬(len*i.size=0):=oM;have hpe:parts.map (λ(j,x)=>(j,a.eval x))=(parts.toList.map λ(j,x)=>(j,a.eval x)).toArray:=by apply Array.toList_inj.mp;simp
 have hrun:(execOp a.eval ⟨dst, .buildSlice T len parts,ty,pos,after,guard⟩).run P w= .ok (.value (.slice (some ⟨w.heap.size,0,none⟩) len len)) (w.alloc (.cells (vss.map (·.cells.toList)).flatten.toArray e)):=by
  have hz':(zeroValue e).run P w= .ok z w:=by simp[zeroValue,typeInfo,hi,hz1]
  have hso:(sizeOf e).run P w= .ok i.size w:=by simp[sizeOf,typeInfo,hi]
  simp only[execOp,Instr.buildSlice,Sem.run_bind,run_underlying ht,Result.andThen_ok,hso,gt_iff_lt,show(2:Nat)^24=16777216 from rfl,if_neg hn,Sem.run_pure,if_neg h00,hz',hpe];have hfill':Instr.fill (λj=>some (j*i.size,i.size)) (Array.map (λx=>z.cells[x%z.cells.size]!) (Array.range (len*i.size))) (parts.toList.map λx=>(x.1,a.eval x.2))=some (vss.map (·.cells.toList)).flatten.toArray:=hfill;rw[hfill'];simp[newRow]
 obtain⟨k1,k2,k3⟩:Ev m φ w (m++ [.tok 0 (.slice (some ⟨w.heap.size,0,none⟩) len len)]) φ (w.alloc (.cells (vss.map (·.cells.toList)).flatten.toArray e))/\SR (m++ [.tok 0 (.slice (some ⟨w.heap.size,0,none⟩) len len)]) φ (st++ [.os e i.size 0 (xs.map AV.cells)]) (w.alloc (.cells (vss.map (·.cells.toList)).flatten.toArray e))/\True:=by
  have hF:=Fz.alloc hs (.cells (vss.map (·.cells.toList)).flatten.toArray e);have hk:∀b,b<w.heap.size->(w.alloc (.cells (vss.map (·.cells.toList)).flatten.toArray e)).heap[b]? =w.heap[b]? :=λb hb=>bx hb;have hnew:∀b,(Cz.tok 0 (.slice (some ⟨w.heap.size,0,none⟩) len len)).has b->w.heap.size<=b:=λb hb=>by simp only[Cz.has,Value.ownBlock,ao] at hb;omega
  have hlen2:(vss.map (·.cells.toList)).flatten.length=len*i.size:=by
   have:=aS c2;have h2:∀l:List AV,(l.all λx=>x.okc&&Nat.beq x.cells.length i.size)=true->(l.map AV.cells).flatten.length=l.length*i.size:=by
    intro l;induction l with
    |nil=>simp
    |cons x l ih=>intro h;simp only[List.all_cons,Bool.and_eq_true] at h;have:=nbE h.1.2;simp only[List.map_cons,List.flatten_cons,List.length_append,List.length_cons,ih h.2,Nat.succ_mul];omega
   rw[h2 xs hok,hxl] at this;exact this
  refine⟨Ev.push hs hF hk sM rfl rfl rfl hnew,SR.push hs hF hk sM ?_ hnew,trivial⟩;refine⟨_,(vss.map (·.cells.toList)).flatten,rfl,⟨by rw[hlen2];simp[hxl], .inr ⟨w.heap.size,len,_,by simp[hxl],Nat.zero_le _,heap_alloc_new w _,by simp[hxl],hm,by simpa using hlen2,?_⟩⟩,RAs.mono (Pre.append m _) hF _ _ c2,λf hf=>?_,λb hb=>?_⟩;rw[List.take_of_length_le (by simp only[List.length_map,hxl];simpa using Nat.le_of_eq hlen2)];obtain⟨x,hx1,rfl⟩:=List.mem_map.1 hf;have:=List.all_eq_true.1 hok x hx1;simp only[Bool.and_eq_true] at this;exact nbE this.2;simp only[Value.ownBlock,ao] at hb;exact hs.lt b oM
 exact⟨_,_,hrun,k1,k2,(Below.refl _ _).alloc (Nat.le_refl _) _,λb hb=>by simp only[Value.ownBlock,ao] at hb;omega⟩
end
end Go.Sk
namespace Go.Sk
open Go.RowKit (Below)
theorem pp{φ w k b}:∀{es:List (List D)}{off:Nat}(l:Nat),REs φ w es k b off->REs φ w (es.drop l) k b (off+l*k)
 |es,off,0,h=>by simpa using h
 |[],off,l+1,h=>by simp[REs]
 |e::es,off,l+1,h=>by
  simp only[REs] at h;have:=pp l h.2;rw[show off+(l+1)*k=off+k+l*k from by rw[Nat.succ_mul];omega];simpa using this
theorem po{φ w k b}:∀{es:List (List D)}{off:Nat}(l:Nat),REs φ w es k b off->REs φ w (es.take l) k b off
 |es,off,0,_=>by simp[REs]
 |[],off,l+1,h=>by simp[REs]
 |e::es,off,l+1,h=>by
  simp only[REs] at h;simp only[List.take_succ_cons,REs];exact⟨h.1,po l h.2⟩
section
variable{P:Program}{env:Env}{st:List AO}{dst:Option Tmp}{ty:TypeId}{pos:String}{after:Array Edge}{guard:Option (Nat×Bool)}
def Bnd(env:Env)(o:Option Operand)(d n:Nat):Prop:=match o with
 |none=>n=d
 |some x=>∃k i,opv env x=some (.d (.v (.int k i)))/\0<=i/\i.toNat=n
theorem dz{k:IntKind}{i:Int}{y:Nat}{code:BoundsCode}{w:World}(h0:0<=i)(h1:i.toNat<=y):(Instr.sliceBound (.int k i) y code).run P w= .ok i.toNat w:=by have:0<=i/\i<=(y:Int):=⟨h0,oM⟩;simp[Instr.sliceBound,asIntOf,this]
theorem bH{m φ w0 a}(he:EnvOk m φ w0 env a){lo hi:Option Operand}{len cap l h:Nat}(hl:Bnd env lo 0 l)(hh:Bnd env hi len h)(h1:l<=h)(h2:h<=cap)(w:World):
  (Instr.sliceBounds true len cap (lo.map a.eval) (hi.map a.eval) none).run P w= .ok (l,h,cap) w:=by
 cases hi with
 |none=>
  simp only[Bnd] at hh;subst hh;cases lo with
  |none=>simp only[Bnd] at hl;subst hl;simp[Instr.sliceBounds]
  |some x=>obtain⟨k,i,g1,g2,rfl⟩:=hl;simp[Instr.sliceBounds,aQ he g1,dz g2 h1]
 |some y=>
  obtain⟨k',j,q1,q2,rfl⟩:=hh;cases lo with
  |none=>simp only[Bnd] at hl;subst hl;simp[Instr.sliceBounds,aQ he q1,dz q2 h2]
  |some x=>obtain⟨k,i,g1,g2,rfl⟩:=hl;simp[Instr.sliceBounds,aQ he g1,aQ he q1,dz g2 h1,dz q2 h2]
theorem tv{φ w}{es:List (List D)}{b off k cap l h n sz:Nat}(hk:∀e∈es,e.length=k)(hsz:es≠[]->sz=k)(hr:REs φ w es k b off)(h1:l<=h)(h2:h<=es.length)(h3:h<=n)(_h4:n<=cap):
  RD φ w (.sl ((es.drop l).take (h - l))) (.slice (some (if n=l then⟨b,off,none⟩ else(⟨b,off,none⟩:Addr).add (l*sz))) (h - l) (n - l)):=by
 have hlen:((es.drop l).take (h - l)).length=h - l:=by simp;omega
 simp only[RD];right;split;have:h - l=0:=oM;refine⟨b,off,k,n - l,by rw[hlen],by rw[hlen];omega,λe he=>hk e (List.mem_of_mem_drop (List.mem_of_mem_take he)),?_⟩;rw[this];simp[REs];rw[cJ];refine⟨b,off+l*sz,k,n - l,by rw[hlen],by rw[hlen];omega,λe he=>hk e (List.mem_of_mem_drop (List.mem_of_mem_take he)),?_⟩;by_cases hes:es=[];subst hes;simp[REs];rw[hsz hes];exact po _ (pp l hr)
theorem tH{T n:Nat}{bb:Bool}{x:Operand}{lo hi:Option Operand}{xr:AV}{es:List (List D)}{l h:Nat}(hT:aP P T=some (n,bb))(hx:opv env x=some xr)(hle:Le xr (.d (.sl es)))(hl:Bnd env lo 0 l)(hh:Bnd env hi es.length h)
  (h1:l<=h)(h2:h<=es.length)(hk:∀e∈es,e.length=n):Yields P env st ⟨dst, .slice T x lo hi none,ty,pos,after,guard⟩ (.d (.sl ((es.drop l).take (h - l)))):=λm φ a w _ he=>by
 have hx':=pR he hx hle;obtain⟨t,g1,g2,_⟩:=c9 hT;simp only[RD] at hx';rcases hx' with⟨rfl,a0,c0,hv,hz0⟩|⟨b,off,k,cap,hv,h3,h4,h5⟩
 simp only[List.length_nil,Nat.le_zero] at h2;subst h2;have:l=0:=oM;subst this;refine⟨.slice a0 0 c0,by simp only[RA,RD];exact .inl ⟨sM,a0,c0,rfl,hz0⟩,λw' _=>?_⟩;have:=bH (P:=P) he hl hh (Nat.le_refl _) (Nat.zero_le c0) w';simp only[List.length_nil] at this;cases a0 with
 |none=>have:=hz0 rfl;subst this;simp_all [execOp,Instr.sliceAt,run_underlying g1,Instr.slice,ax g2]
 |some a0=>
  have hadd:a0.add 0=a0:=by simp[Addr.add]
  by_cases hc0:c0=0;subst hc0;simp_all [execOp,Instr.sliceAt,run_underlying g1,Instr.slice,ax g2];simp_all [execOp,Instr.sliceAt,run_underlying g1,Instr.slice,ax g2]
 have hkn:es≠[]->n=k:=λhne=>by
  obtain⟨e,he'⟩:=List.exists_mem_of_ne_nil es hne;rw[<-hk e he',h4 e he']
 refine⟨_,by simp only[RA];exact tv (sz:=n) h4 hkn h5 h1 h2 (Nat.le_trans h2 h3) (Nat.le_refl cap),λw' _=>?_⟩;by_cases hcl:cap=l;have:=bH (P:=P) he hl hh h1 (Nat.le_trans h2 h3) w';rw[hcl] at this;simp[execOp,Instr.sliceAt,run_underlying g1,Instr.slice,hv,this,ax g2,hcl];simp[execOp,Instr.sliceAt,run_underlying g1,Instr.slice,hv,bH he hl hh h1 (Nat.le_trans h2 h3),ax g2,hcl]
theorem nQ{x y:Operand}{k:IntKind}{p q:Int}{c:Call}{T T':TypeId}(hc:c=⟨.builtin .max, #[x,y], #[T,T']⟩)(hx:opv env x=some (.d (.v (.int k p))))(hy:opv env y=some (.d (.v (.int k q)))):Yields P env st ⟨dst, .call c,ty,pos,after,guard⟩ (.d (.v (.int k (if q>p then q else p)))):=λm φ a w _ he=>
 ⟨_,RAv,λw' _=>by subst hc;simp[execOp,resolve,invoke,builtin,Builtin.max_,Builtin.max2,aQ he hx,aQ he hy]⟩
theorem uP{x y:Operand}{k:IntKind}{p q:Int}{c:Call}{T T':TypeId}(hc:c=⟨.builtin .min, #[x,y], #[T,T']⟩)(hx:opv env x=some (.d (.v (.int k p))))(hy:opv env y=some (.d (.v (.int k q)))):Yields P env st ⟨dst, .call c,ty,pos,after,guard⟩ (.d (.v (.int k (if q<p then q else p)))):=λm φ a w _ he=>
 ⟨_,RAv,λw' _=>by subst hc;simp[execOp,resolve,invoke,builtin,Builtin.min_,Builtin.min2,aQ he hx,aQ he hy]⟩
end
end Go.Sk
namespace Go.Sk
open Go.RowKit (Below)
@[inline] def al{α β:Sort _}(k:α)(f:α->β):β:=f k
theorem am{α β:Sort _}{k:α}{f:α->β}{z:β}(h:al k f=z):∃k',k'=k/\f k'=z:=⟨k,rfl,h⟩
theorem ff{α:Sort _}{c:Bool}{a b z:α}(h:(bif c then a else b)=z)(hc:c=true):a=z:=by subst hc;exact h
theorem fg{α:Sort _}{c:Bool}{a b z:α}(h:(bif c then a else b)=z)(hc:c=false):b=z:=by subst hc;exact h
theorem ak{α β:Type _}{o:Option α}{f:α->Option β}{r:β}(h:o.bind f=some r):∃x,o=some x/\f x=some r:=by
 cases o with
 |none=>simp at h
 |some x=>exact⟨x,rfl,h⟩
theorem vW{β:Type _}{c:Bool}{o:Option β}{r:β}(h:(bif c then o else none)=some r):c=true/\o=some r:=by cases c;simp at h;exact⟨rfl,h⟩
def idx{α:Type}(l:List α)(i:Int):Option α:=bif decide (0<=i) then l[i.toNat]? else none
theorem az{α:Type}{l:List α}{i:Int}{x:α}(h:idx l i=some x):0<=i:=by unfold idx at h;cases hd:decide (0<=i);rw[hd] at h;cases h;simpa using hd
theorem dp{α:Type}{l:List α}{i:Int}{x:α}(h:idx l i=some x):l[i.toNat]? =some x:=by have h0:=az h;simpa[idx,h0] using h
theorem bv{α:Type}{l:List α}{f g:α->List D}{i:Int}{x:α}(hfg:∀x,f x=g x)(h:idx l i=some x):(l.map f)[i.toNat]? =some (g x):=by rw[List.getElem?_map,dp h,Option.map_some,hfg]
theorem cQ{α:Type}{l:List α}{i:Int}{x:α}(h:idx l i=some x):i<l.length:=by have h1:=dp h;have h2:=(giS.1 h1).1;have:=az h;omega
def nz(q:Int):Bool:= !decide (q=0)
theorem nz_ne{q:Int}(h:nz q=true):q≠0:=by simpa[nz] using h
section
variable{P:Program}{e:En}{ops:Array Oper}{l:List Oper}{env:Env}{st:List AO}{R:Env->List AO->Prop}{n:Nat}{RQ:Env->Prop}{K:Ko}
theorem WL.grp(k:Nat){t d:Nat}{x z:Bool}(hx:env.get t=some (.d (.v (.bool x))))
  (h1:x=true->WL P e ops (l.take k) ((t, .d (.v (.bool true)))::env) st λenv' st'=>st'=st/\GrpJ env t true d z env')
  (h0:x=false->WL P e ops (l.take k) ((t, .d (.v (.bool false)))::env) st λenv' st'=>st'=st/\GrpJ env t false d z env')
  (hr:WL P e ops (l.drop k) ((d, .d (.v (.bool z)))::env) st R):WL P e ops l env st R:=by
 rw[<-List.take_append_drop k l];refine WL.cut (λenv' st'=>st'=st/\GrpJ env t x d z env') ?_ ?_;cases x;exact WL.sub (Sub.one hx (Sub.refl env)) (h0 rfl);exact WL.sub (Sub.one hx (Sub.refl env)) (h1 rfl);rintro env' st' ⟨rfl,hJ⟩;exact WL.sub (hJ.sub hx rfl) hr
theorem WQ.grp(k:Nat){t d:Nat}{x z:Bool}(hx:env.get t=some (.d (.v (.bool x))))
  (h1:x=true->WQ P n ops (l.take k) ((t, .d (.v (.bool true)))::env) st (GrpJ env t true d z))
  (h0:x=false->WQ P n ops (l.take k) ((t, .d (.v (.bool false)))::env) st (GrpJ env t false d z))
  (hr:WQ P n ops (l.drop k) ((d, .d (.v (.bool z)))::env) st RQ):WQ P n ops l env st RQ:=by
 rw[<-List.take_append_drop k l];refine WQ.cut (GrpJ env t x d z) ?_ ?_;cases x;exact WQ.sub (Sub.one hx (Sub.refl env)) (h0 rfl);exact WQ.sub (Sub.one hx (Sub.refl env)) (h1 rfl);intro env' hJ;exact WQ.sub (hJ.sub hx rfl) hr
def OLe(o o':AO):Prop:=match o,o' with
 |_, .dead=>True
 | .row T cs, .row T' cs'=>T'=T/\Les cs cs'
 | .os T k v es, .os T' k' v' es'=>T'=T/\k'=k/\v'=v/\es'=es
 | .mp es, .mp es'=>es'=es
 | .fam T k v es, .fam T' k' v' es'=>T'=T/\k'=k/\v'=v/\es'=es
 | .si s p, .si s' p'=>s'=s/\p'=p
 | .mb a b c, .mb a' b' c'=>a'=a/\b'=b/\c'=c
 | .it a b c d, .it a' b' c' d'=>a'=a/\b'=b/\c'=c/\d'=d
 | .lp s vs a b, .lp s' vs' a' b'=>s'=s/\Les vs vs'/\a'=a/\b'=b
 | .rsv, .rsv=>True
 |_,_=>False
theorem OLe.refl(o:AO):OLe o o:=by
 cases o with
 |row T cs=>exact⟨rfl,Les.refl cs⟩
 |os T k v es=>exact⟨rfl,rfl,rfl,rfl⟩
 |mp es=>exact rfl
 |fam T k v es=>exact⟨rfl,rfl,rfl,rfl⟩
 |si s p=>exact⟨rfl,rfl⟩
 |mb a b c=>exact⟨rfl,rfl,rfl⟩
 |it a b c d=>exact⟨rfl,rfl,rfl,rfl⟩
 |lp s vs a b=>exact⟨rfl,Les.refl vs,rfl,rfl⟩
 |rsv=>trivial
 |dead=>trivial
def SLe:List AO->List AO->Prop
 |[],[]=>True
 |o::l,o'::l'=>OLe o o'/\SLe l l'
 |_,_=>False
theorem SLe.refl:∀l:List AO,SLe l l
 |[]=>trivial
 |o::l=>⟨OLe.refl o,SLe.refl l⟩
theorem SLe.length:∀{l l':List AO},SLe l l'->l'.length=l.length
 |[],[],_=>rfl
 |_::l,_::l',h=>by simp[SLe.length h.2]
 |[],_::_,h=>h.elim
 |_::_,[],h=>h.elim
theorem SLe.get:∀{l l':List AO},SLe l l'->∀{i:Nat}{o':AO},l'[i]? =some o'->∃o,l[i]? =some o/\OLe o o'
 |[],[],_,i,o',h=>by simp at h
 |o::l,o1::l',h,i,o',hi=>by
  cases i with
  |zero=>simp only[List.getElem?_cons_zero,ao] at hi;subst hi;exact⟨o,sM,h.1⟩
  |succ i=>simpa using SLe.get h.2 (by simpa using hi)
 |[],_::_,h,_,_,_=>h.elim
 |_::_,[],h,_,_,_=>h.elim
theorem OLe.live{o o':AO}(h:OLe o o')(hl:o'.live=true):o.live=true:=by cases o'<;>cases o<;>first|rfl|(simp[AO.live] at hl;done)|exact h.elim
theorem OR.weak{m φ w}{o o':AO}{c:Cz}(hr:OR m φ w o c)(h:OLe o o'):OR m φ w o' c:=by
 cases o' with
 |dead=>trivial
 |row T' cs'=>
  cases o with
  |row T cs=>obtain⟨rfl,h⟩:=h;obtain⟨b,h1,h2,vs,h3,h4⟩:=hr;exact⟨b,h1,h2,vs,h3,h.ras h4⟩
  |_=>exact h.elim
 |os T' k' v' es'=>
  cases o with
  |os T k v es=>obtain⟨rfl,rfl,rfl,rfl⟩:=h;exact hr
  |_=>exact h.elim
 |mp es'=>
  cases o with
  |mp es=>cases h;exact hr
  |_=>exact h.elim
 |fam T' k' v' es'=>
  cases o with
  |fam T k v es=>obtain⟨rfl,rfl,rfl,rfl⟩:=h;exact hr
  |_=>exact h.elim
 |si s' p'=>
  cases o with
  |si s p=>obtain⟨rfl,rfl⟩:=h;exact hr
  |_=>exact h.elim
 |mb a' b' c'=>
  cases o with
  |mb a b c=>obtain⟨rfl,rfl,rfl⟩:=h;exact hr
  |_=>exact h.elim
 |it a' b' c' d'=>
  cases o with
  |it a b c d=>obtain⟨rfl,rfl,rfl,rfl⟩:=h;exact hr
  |_=>exact h.elim
 |lp s' vs' a' b'=>
  cases o with
  |lp s vs a b=>obtain⟨rfl,hl,rfl,rfl⟩:=h;obtain⟨b,h1,h2,r,us,h3,h4,h5⟩:=hr;exact⟨b,h1,h2,r,us,h3,h4,hl.ras h5⟩
  |_=>exact h.elim
 |rsv=>
  cases o with
  |rsv=>exact hr
  |_=>exact h.elim
theorem SR.weak{m φ st st' w}(hs:SR m φ st w)(h:SLe st st'):SR m φ st' w where
 len:=by rw[h.length];exact hs.len
 obj i o' c h1 h2:=by obtain⟨o,h3,h4⟩:=h.get h1;exact(hs.obj i o c h3 h2).weak h4
 lt:=hs.lt
 inj i j o o' c c' b h1 h2 l1 l2:=by obtain⟨p,h3,h4⟩:=h.get h1;obtain⟨p',h5,h6⟩:=h.get h2;exact hs.inj i j p p' c c' b h3 h5 (h4.live l1) (h6.live l2)
 gl:=hs.gl
 nb:=hs.nb
theorem Inv.weak{m φ st' a w}(hi:Inv e m φ env st a w)(h:SLe st st'):Inv e m φ env st' a w:=⟨hi.sr.weak h,hi.ev,hi.env,hi.sz,hi.df⟩
theorem WC.weak{c:Code}{st':List AO}(h:SLe st st')(hc:WC P e c K env st'):WC P e c K env st:=λm φ a w hi=>hc m φ a w (hi.weak h)
theorem WE.weak{x:Exit}{st':List AO}(h:SLe st st')(hc:WE P e x K env st'):WE P e x K env st:=λm φ a w hi=>hc m φ a w (hi.weak h)
mutual
def AV.lt(n:Nat):AV->Bool
 | .u=>true
 | .d _=>true
 | .ag ps=>AV.lts n ps
 | .pt id _=>Nat.ble (id+1) n
 | .sr id _ _ _=>Nat.ble (id+1) n
 | .fn _ f c=>AV.lts n f&&AV.lts n c
 | .mp id=>Nat.ble (id+1) n
 | .tu l=>AV.lts n l
 | .os id _=>Nat.ble (id+1) n
 | .pe id _ _=>Nat.ble (id+1) n
 | .ow id _ _ _ _=>Nat.ble (id+1) n
 | .fs _=>true
 | .ifc _ x=>AV.lt n x
 | .osf id _ _=>Nat.ble (id+1) n
 | .pem id _ _ _=>Nat.ble (id+1) n
 | .yl id=>Nat.ble (id+1) n
 | .kv _ _=>true
def AV.lts(n:Nat):List AV->Bool
 |[]=>true
 |p::ps=>AV.lt n p&&AV.lts n ps
end
theorem dg{α:Type}{m:List α}{n i:Nat}{x:α}(hn:Nat.ble (i+1) n=true)(h:m[i]? =some x):(m.take n)[i]? =some x:=by rw[List.getElem?_take,if_pos (show i<n from nbT hn)];exact h
mutual
theorem RA.take{m φ w}{n:Nat}:∀(x:AV)(v:Value),x.lt n=true->RA m φ w x v->RA (m.take n) φ w x v
 | .u,_,_,_=>by simp[RA]
 | .d _,v,_,h=>by simpa[RA] using h
 | .ag ps,v,hl,h=>by
  simp only[AV.lt] at hl;simp only[RA] at h⊢;obtain⟨cs,h1,h2⟩:=h;exact⟨cs,h1,RAs.take ps cs hl h2⟩
 | .pt id _,v,hl,h=>by
  simp only[AV.lt] at hl;simp only[RA] at h⊢;obtain⟨b,h1,h2⟩:=h;exact⟨b,dg hl h1,h2⟩
 | .sr id _ _ _,v,hl,h=>by
  simp only[AV.lt] at hl;simp only[RA] at h⊢;obtain⟨b,h1,h2⟩:=h;exact⟨b,dg hl h1,h2⟩
 | .fn _ f c,v,hl,h=>by
  simp only[AV.lt,Bool.and_eq_true] at hl;simp only[RA] at h⊢;obtain⟨fs,cs,h1,h2,h3⟩:=h;exact⟨fs,cs,h1,RAs.take f fs hl.1 h2,RAs.take c cs hl.2 h3⟩
 | .mp id,v,hl,h=>by
  simp only[AV.lt] at hl;simp only[RA] at h⊢;obtain⟨b,h1,h2⟩:=h;exact⟨b,dg hl h1,h2⟩
 | .tu l,v,hl,h=>by
  simp only[AV.lt] at hl;simp only[RA] at h⊢;obtain⟨cs,h1,h2⟩:=h;exact⟨cs,h1,RAs.take l cs hl h2⟩
 | .os id _,v,hl,h=>by
  simp only[AV.lt] at hl;simp only[RA] at h⊢;obtain⟨a,y,h1,h2⟩:=h;exact⟨a,y,dg hl h1,h2⟩
 | .pe id _ _,v,hl,h=>by
  simp only[AV.lt] at hl;simp only[RA] at h⊢;obtain⟨a,y,h1,h2⟩:=h;exact⟨a,y,dg hl h1,h2⟩
 | .ow id _ _ _ _,v,hl,h=>by
  simp only[AV.lt] at hl;simp only[RA] at h⊢;obtain⟨a,y,h1,h2⟩:=h;exact⟨a,y,dg hl h1,h2⟩
 | .fs _,v,_,h=>by simpa[RA] using h
 | .ifc _ x,v,hl,h=>by
  simp only[AV.lt] at hl;simp only[RA] at h⊢;obtain⟨z,h1,h2⟩:=h;exact⟨z,h1,RA.take x z hl h2⟩
 | .osf id _ _,v,hl,h=>by
  simp only[AV.lt] at hl;simp only[RA] at h⊢;obtain⟨a,y,h1,h2⟩:=h;exact⟨a,y,dg hl h1,h2⟩
 | .pem id _ _ _,v,hl,h=>by
  simp only[AV.lt] at hl;simp only[RA] at h⊢;obtain⟨a,y,h1,h2⟩:=h;exact⟨a,y,dg hl h1,h2⟩
 | .yl id,v,hl,h=>by
  simp only[AV.lt] at hl;simp only[RA] at h⊢;obtain⟨b,h1,h2⟩:=h;exact⟨b,dg hl h1,h2⟩
 | .kv _ _,v,_,h=>by simpa[RA] using h
theorem RAs.take{m φ w}{n:Nat}:∀(xs:List AV)(vs:List Value),AV.lts n xs=true->RAs m φ w xs vs->RAs (m.take n) φ w xs vs
 |[],vs,_,h=>by simpa[RAs] using h
 |x::xs,vs,hl,h=>by
  simp only[AV.lts,Bool.and_eq_true] at hl;simp only[RAs] at h⊢;obtain⟨c,cs,h1,h2,h3⟩:=h;exact⟨c,cs,h1,RA.take x c hl.1 h2,RAs.take xs cs hl.2 h3⟩
end
def AO.lt(n:Nat):AO->Bool
 | .row _ cs=>AV.lts n cs
 | .os _ _ _ es=>AV.lts n es.flatten
 | .mp es=>AV.lts n (es.map (·.2))
 | .fam _ _ _ ess=>AV.lts n ess.flatten.flatten
 | .si _ _=>true
 | .mb _ xs _=>AV.lts n xs
 | .it src _ _ _=>src.lt n
 | .lp _ vs _ _=>AV.lts n vs
 | .rsv=>true
 | .dead=>true
def Env.lt(n:Nat):Env->Bool
 |[]=>true
 |(_,x)::r=>x.lt n&&Env.lt n r
theorem lG{n:Nat}:∀{env:Env},Env.lt n env=true->∀{t:Nat}{x:AV},env.get t=some x->x.lt n=true
 |[],_,t,x,h=>by simp[Env.get] at h
 |(k,y)::r,hl,t,x,h=>by
  simp only[Env.lt,Bool.and_eq_true] at hl;unfold Env.get at h;cases hb:Nat.beq t k with
  |true=>rw[hb] at h;simp only[cdT,ao] at h;subst h;exact hl.1
  |false=>rw[hb] at h;exact lG hl.2 h
theorem vN{n:Nat}:∀{a b:List AV},AV.lts n (a++b)=(AV.lts n a&&AV.lts n b)
 |[],b=>by simp[AV.lts]
 |x::a,b=>by simp[AV.lts,vN (a:=a) (b:=b),Bool.and_assoc]
theorem m9{n:Nat}:∀{ess:List (List (List AV))}{es:List (List AV)},AV.lts n ess.flatten.flatten=true->es∈ess->AV.lts n es.flatten=true
 |[],_,_,h=>by simp at h
 |x::ess,es,hl,h=>by
  simp only[List.flatten_cons,List.flatten_append,vN,Bool.and_eq_true] at hl;rcases List.mem_cons.1 h with rfl|h
  exact hl.1;exact m9 hl.2 h
theorem OR.take{m φ w}{n:Nat}{o:AO}{c:Cz}(hl:o.lt n=true)(h:OR m φ w o c):OR (m.take n) φ w o c:=by
 cases o with
 |row T cs=>obtain⟨b,h1,h2,vs,h3,h4⟩:=h;exact⟨b,h1,h2,vs,h3,RAs.take _ _ hl h4⟩
 |os T k ver es=>obtain⟨y,xs,h1,h2,h3,h4⟩:=h;exact⟨y,xs,h1,h2,RAs.take _ _ hl h3,h4⟩
 |mp es=>obtain⟨b,h1,h2,l,cl,h3,h4,h5,h6⟩:=h;exact⟨b,h1,h2,l,cl,h3,h4,RAs.take _ _ hl h5,h6⟩
 |fam T k ver ess=>obtain⟨ys,h1,h2,h3,h4⟩:=h;refine⟨ys,h1,h2,λj es y hj hy=>?_,h4⟩;obtain⟨xs,g1,g2,g3⟩:=h3 j es y hj hy;exact⟨xs,g1,RAs.take _ _ (m9 hl (List.mem_of_getElem? hj)) g2,g3⟩
 |si s p=>exact h
 |mb es xs cl=>obtain⟨b,h1,h2,l,h3,h4,h5⟩:=h;exact⟨b,h1,h2,l,h3,h4,RAs.take _ _ hl h5⟩
 |it src since seen stp=>obtain⟨b,h1,h2,sb,h3,h4⟩:=h;exact⟨b,h1,h2,sb,h3,RA.take _ _ hl h4⟩
 |lp s vs a b=>obtain⟨b,h1,h2,r,us,h3,h4,h5⟩:=h;exact⟨b,h1,h2,r,us,h3,h4,RAs.take _ _ hl h5⟩
 |rsv=>exact h
 |dead=>trivial
def da(n:Nat):List AO->Bool
 |[]=>true
 |o::l=>o.lt n&&da n l
theorem eu{n:Nat}:∀{l:List AO},da n l=true->∀{i:Nat}{o:AO},l[i]? =some o->o.lt n=true
 |[],_,i,o,h=>by simp at h
 |p::l,hl,i,o,h=>by
  simp only[da,Bool.and_eq_true] at hl;cases i with
  |zero=>simp only[List.getElem?_cons_zero,ao] at h;subst h;exact hl.1
  |succ i=>exact eu hl.2 (by simpa using h)
theorem bL{α:Type}{l:List α}{n i:Nat}{x:α}(h:(l.take n)[i]? =some x):i<n/\l[i]? =some x:=by rw[List.getElem?_take] at h;split at h;rename_i hlt;exact⟨hlt,h⟩;simp at h
theorem Inv.drop{m φ a w}(n:Nat)(hi:Inv e m φ env st a w)(he:Env.lt n env=true)(hs:da n (st.take n)=true)(hm:e.m.length<=n):Inv e (m.take n) φ env (st.take n) a w where
 sr:={
  len:=by simp[hi.sr.len]
  obj:=λi o c h1 h2=>(hi.sr.obj i o c (bL h1).2 (bL h2).2).take (eu hs h1)
  lt:=hi.sr.lt
  inj:=λi j o o' c c' b h1 h2 l1 l2 h3 h4=>hi.sr.inj i j o o' c c' b (bL h1).2 (bL h2).2 l1 l2 (bL h3).2 (bL h4).2
  gl:=hi.sr.gl
  nb:=λb ⟨i,c,h,h2⟩=>hi.sr.nb b ⟨i,c,(bL h).2,h2⟩ }
 ev:=⟨λi c h=>by
   obtain⟨c',h1,h2⟩:=hi.ev.pre i c h;have:i<e.m.length:=(giS.1 h).1;exact⟨c',dg (Nat.ble_eq_true_of_le (show i+1<=n by omega)) h1,h2⟩,
  λb ⟨i,c,h1,h2⟩=>hi.ev.new b ⟨i,c,(bL h1).2,h2⟩,hi.ev.os,hi.ev.tape,hi.ev.output,hi.ev.size,hi.ev.keep,hi.ev.fz⟩
 env:=⟨λt x hx=>by
  obtain⟨v,h1,h2⟩:=hi.env t x hx;exact⟨v,h1,RA.take x v (lG he hx) h2⟩,hi.env.gl⟩
 sz:=hi.sz
 df:=hi.df.mono λr h1 _=>⟨λ⟨i,c,h2,h3⟩=>h1 ⟨i,c,(bL h2).2,h3⟩,rfl⟩
theorem WE.drop{x:Exit}(n:Nat){env':Env}(hs:Sub env' env)(he:Env.lt n env'=true)(ho:da n (st.take n)=true)(hm:e.m.length<=n)(h:WE P e x K env' (st.take n)):WE P e x K env st:=λm φ a w hi=>
 h (m.take n) φ a w ((hi.sub hs).drop n he ho hm)
end
theorem WC.cast{P:Program}{e:En}{c:Code}{K:Ko}{env:Env}{st:List AO}(t:Nat){x y:AV}(ht:env.get t=some x)(hl:Le x y)(h:WC P e c K ((t,y)::env) st):WC P e c K env st:=
 WC.sub (Sub.cons ht hl (Sub.refl env)) h
end Go.Sk
namespace Go.Sk
open Go.RowKit (Below)
def au{β:Type _}(c:Bool)(o:Option β):Option β:=bif c then o else none
theorem av{β:Type _}{c:Bool}{o:Option β}{r:β}(h:au c o=some r):c=true/\o=some r:=vW h
abbrev aJ{α:Type}(E:α->List D)(x:α):List AV:=(E x).map AV.d
theorem an{α:Type}{E R:α->List D}(hE:∀x,E x=R x)(L:List α):L.map (aJ R)=(L.map E).map λe=>e.map AV.d:=by rw[List.map_map];apply List.map_congr_left;intro x _;simp[aJ,hE]
def aO{α:Type}(b:Nat)(L L2:List α):Bool:=decide (L.length+L2.length<=maxLen)&&decide ((L.length+L2.length)*b<=140737488355328)
theorem ry{α:Type}{b:Nat}{L L2:List α}(h:aO b L L2=true):L.length+L2.length<=maxLen:=by simp only[aO,Bool.and_eq_true,decide_eq_true_eq] at h;exact h.1
theorem tn{α:Type}{b:Nat}{L L2:List α}(h:aO b L L2=true):(L.length+L2.length)*b<=140737488355328:=by simp only[aO,Bool.and_eq_true,decide_eq_true_eq] at h;exact h.2
def cm{α:Type}(L:List α)(lo hi:Int):Bool:=decide (0<=lo)&&decide (lo<=hi)&&decide (hi<=L.length)
def pK{α:Type}(L:List α)(lo hi:Int):List α:=(L.drop lo.toNat).take (hi.toNat - lo.toNat)
def BndI(env:Env)(o:Option Operand)(d i:Int):Prop:=match o with
 |none=>i=d
 |some x=>∃k,opv env x=some (.d (.v (.int k i)))
theorem BndI.bnd{env:Env}{o:Option Operand}{d:Nat}{i:Int}(h:BndI env o d i)(h0:0<=i):Bnd env o d i.toNat:=by
 cases o with
 |none=>simp only[BndI] at h;simp only[Bnd];omega
 |some x=>obtain⟨k,h⟩:=h;exact⟨k,i,h,h0,rfl⟩
theorem ik{α:Type}{L:List α}{lo hi:Int}(h:cm L lo hi=true):0<=lo/\lo<=hi/\hi<=L.length:=by simp only[cm,Bool.and_eq_true,decide_eq_true_eq] at h;exact⟨h.1.1,h.1.2,h.2⟩
section
variable{P:Program}{env:Env}{st:List AO}{dst:Option Tmp}{ty:TypeId}{pos:String}{after:Array Edge}{guard:Option (Nat×Bool)}{α:Type}
theorem ae{T n:Nat}{bb:Bool}{x:Operand}{xr:AV}{c:Call}(E:α->List D)(L:List α)(hT:aP P T=some (n,bb))(hc:c=⟨.builtin .len, #[x], #[T]⟩)(hx:opv env x=some xr)(hle:Le xr (.d (.sl (L.map E)))):Yields P env st ⟨dst, .call c,ty,pos,after,guard⟩ (.d (.v (.int .i64 L.length))):=by have:=rG (P:=P) (st:=st) (dst:=dst) (ty:=ty) (pos:=pos) (after:=after) (guard:=guard) hT hc hx hle;rwa [List.length_map] at this
theorem bf{T n:Nat}{bb:Bool}{x:Operand}{id ver T' k:Nat}{c:Call}(E:α->List AV)(L:List α)(hT:aP P T=some (n,bb))(hc:c=⟨.builtin .len, #[x], #[T]⟩)(hx:opv env x=some (.os id ver))(hi:st[id]? =some (.os T' k ver (L.map E))):
  Yields P env st ⟨dst, .call c,ty,pos,after,guard⟩ (.d (.v (.int .i64 L.length))):=by
 have:=nU (P:=P) (st:=st) (dst:=dst) (ty:=ty) (pos:=pos) (after:=after) (guard:=guard) hT hc hx hi;rwa [List.length_map] at this
theorem rC{T n:Nat}{bb:Bool}{x:Operand}{lo hi:Option Operand}{xr:AV}(E:α->List D)(L:List α){l h:Int}(hT:aP P T=some (n,bb))(hx:opv env x=some xr)(hle:Le xr (.d (.sl (L.map E))))(hl:BndI env lo 0 l)(hh:BndI env hi L.length h)
  (hok:cm L l h=true)(hk:∀x,(E x).length=n):Yields P env st ⟨dst, .slice T x lo hi none,ty,pos,after,guard⟩ (.d (.sl ((pK L l h).map E))):=by
 obtain⟨h1,h2,h3⟩:=ik hok;have:=tH (P:=P) (st:=st) (dst:=dst) (ty:=ty) (pos:=pos) (after:=after) (guard:=guard) (l:=l.toNat) (h:=h.toNat) hT hx hle (hl.bnd h1) (by rw[List.length_map];exact hh.bnd oM) oM (by rw[List.length_map];omega)
  (λe he=>by obtain⟨x,_,rfl⟩:=List.mem_map.1 he;exact hk x)
 simpa only[pK,List.map_take,List.map_drop] using this
theorem bN{xr:AV}{k:Nat}{E R:α->List D}{L:List α}(hl:Le xr (.d (.sl (L.map E))))(hE:∀x,E x=R x)(hk:∀x,(R x).length=k):Src st xr k (L.map (aJ R)):=by rw[an hE];exact Src.data hl (λe he=>by obtain⟨x,_,rfl⟩:=List.mem_map.1 he;rw[hE];exact hk x)
theorem pa{L:List α}{R:α->List D}(h:∀x,((aJ R x).all AV.ok1)=true):(L.map (aJ R)).flatten.all AV.ok1=true:=by
 induction L with
 |nil=>rfl
 |cons a L ih=>rw[List.map_cons,List.flatten_cons,List.all_append,h a,ih];rfl
theorem ay{T e k by_:Nat}{zs:List Value}{s x:Operand}{id ver:Nat}{xr:AV}{c:Call}(R:α->List D)(L L2:List α)(hT:cW P T=some (e,k,by_))(hz:aY P e=some zs)(hzl:zs.length=k)(hk:0<k)
  (hc:c=⟨.builtin .append, #[s,x], #[T,T]⟩)(hs:opv env s=some (.os id ver))(hi:st[id]? =some (.os e k ver (L.map (aJ R))))(hx:opv env x=some xr)(hsrc:Src st xr k (L2.map (aJ R)))(hR:∀x,(R x).length=k)(hf1:∀x,(aJ R x).all AV.ok1=true)
  (hok:aO by_ L L2=true):
  Does P env st ⟨dst, .call c,ty,pos,after,guard⟩ (.os id (ver+1)) (st.set id (.os e k (ver+1) ((L++L2).map (aJ R)))):=by
 have:=te (P:=P) (_T':=0) (dst:=dst) (ty:=ty) (pos:=pos) (after:=after) (guard:=guard) hT hz hzl hk hc hs hi hx hsrc (pa hf1) (λf hf=>by obtain⟨x,_,rfl⟩:=List.mem_map.1 hf;simp[aJ,hR]) (by simpa using ry hok) (by simpa using tn hok);rwa [<-List.map_append] at this
end
end Go.Sk
namespace Go.Sk
open Go.RowKit (Below)
mutual
def AV.ren(js:List Nat):AV->AV
 | .u=> .u
 | .d x=> .d x
 | .ag ps=> .ag (AV.rens js ps)
 | .pt id off=> .pt (js.getD id 0) off
 | .sr id a b c=> .sr (js.getD id 0) a b c
 | .fn f x c=> .fn f (AV.rens js x) (AV.rens js c)
 | .mp id=> .mp (js.getD id 0)
 | .tu l=> .tu (AV.rens js l)
 | .os id v=> .os (js.getD id 0) v
 | .pe id v o=> .pe (js.getD id 0) v o
 | .ow id v o l c=> .ow (js.getD id 0) v o l c
 | .fs es=> .fs es
 | .ifc t x=> .ifc t (AV.ren js x)
 | .osf id j v=> .osf (js.getD id 0) j v
 | .pem id j v off=> .pem (js.getD id 0) j v off
 | .yl id=> .yl (js.getD id 0)
 | .kv y x=> .kv y x
def AV.rens(js:List Nat):List AV->List AV
 |[]=> []
 |p::ps=>AV.ren js p::AV.rens js ps
end
theorem cY(js:List Nat):∀l:List AV,AV.rens js l=l.map (AV.ren js)
 |[]=>rfl
 |_::l=>by rw[AV.rens,cY js l];rfl
def Win(js:List Nat)(m m0:List Cz):Prop:=∀(i j:Nat),js[i]? =some j->m0[i]? =m[j]?
theorem Win.get{js:List Nat}{m m0:List Cz}(h:Win js m m0){id:Nat}(hid:Nat.ble (id+1) js.length=true):m0[id]? =m[js.getD id 0]? :=by have hlt:id<js.length:=nbT hid;refine h id _ ?_;rw[List.getD_eq_getElem?_getD,geG hlt,Option.getD_some]
mutual
theorem RA.ren{js:List Nat}{m m0:List Cz}{φ w}(hw:Win js m m0):∀(x:AV)(v:Value),x.lt js.length=true->(RA m φ w (x.ren js) v↔RA m0 φ w x v)
 | .u,_,_=>by simp[RA,AV.ren]
 | .d _,v,_=>by simp[RA,AV.ren]
 | .ag ps,v,hl=>by
  simp only[AV.lt] at hl;simp only[RA,AV.ren];exact⟨λ⟨cs,h1,h2⟩=>⟨cs,h1,(RAs.ren hw ps cs hl).1 h2⟩,λ⟨cs,h1,h2⟩=>⟨cs,h1,(RAs.ren hw ps cs hl).2 h2⟩⟩
 | .pt id _,v,hl=>by simp only[AV.lt] at hl;simp only[RA,AV.ren,hw.get hl]
 | .sr id _ _ _,v,hl=>by simp only[AV.lt] at hl;simp only[RA,AV.ren,hw.get hl]
 | .fn _ f c,v,hl=>by
  simp only[AV.lt,Bool.and_eq_true] at hl;simp only[RA,AV.ren];exact⟨λ⟨fs,cs,h1,h2,h3⟩=>⟨fs,cs,h1,(RAs.ren hw f fs hl.1).1 h2,(RAs.ren hw c cs hl.2).1 h3⟩,λ⟨fs,cs,h1,h2,h3⟩=>⟨fs,cs,h1,(RAs.ren hw f fs hl.1).2 h2,(RAs.ren hw c cs hl.2).2 h3⟩⟩
 | .mp id,v,hl=>by simp only[AV.lt] at hl;simp only[RA,AV.ren,hw.get hl]
 | .tu ps,v,hl=>by
  simp only[AV.lt] at hl;simp only[RA,AV.ren];exact⟨λ⟨cs,h1,h2⟩=>⟨cs,h1,(RAs.ren hw ps cs hl).1 h2⟩,λ⟨cs,h1,h2⟩=>⟨cs,h1,(RAs.ren hw ps cs hl).2 h2⟩⟩
 | .os id _,v,hl=>by simp only[AV.lt] at hl;simp only[RA,AV.ren,hw.get hl]
 | .pe id _ _,v,hl=>by simp only[AV.lt] at hl;simp only[RA,AV.ren,hw.get hl]
 | .ow id _ _ _ _,v,hl=>by simp only[AV.lt] at hl;simp only[RA,AV.ren,hw.get hl]
 | .fs _,v,_=>by simp[RA,AV.ren]
 | .ifc _ x,v,hl=>by
  simp only[AV.lt] at hl;simp only[RA,AV.ren];exact⟨λ⟨z,h1,h2⟩=>⟨z,h1,(RA.ren hw x z hl).1 h2⟩,λ⟨z,h1,h2⟩=>⟨z,h1,(RA.ren hw x z hl).2 h2⟩⟩
 | .osf id _ _,v,hl=>by simp only[AV.lt] at hl;simp only[RA,AV.ren,hw.get hl]
 | .pem id _ _ _,v,hl=>by simp only[AV.lt] at hl;simp only[RA,AV.ren,hw.get hl]
 | .yl id,v,hl=>by simp only[AV.lt] at hl;simp only[RA,AV.ren,hw.get hl]
 | .kv _ _,v,_=>by simp[RA,AV.ren]
theorem RAs.ren{js:List Nat}{m m0:List Cz}{φ w}(hw:Win js m m0):∀(xs:List AV)(vs:List Value),AV.lts js.length xs=true->(RAs m φ w (AV.rens js xs) vs↔RAs m0 φ w xs vs)
 |[],vs,_=>by simp[RAs,AV.rens]
 |x::xs,vs,hl=>by
  simp only[AV.lts,Bool.and_eq_true] at hl;simp only[RAs,AV.rens];exact⟨λ⟨c,cs,h1,h2,h3⟩=>⟨c,cs,h1,(RA.ren hw x c hl.1).1 h2,(RAs.ren hw xs cs hl.2).1 h3⟩,λ⟨c,cs,h1,h2,h3⟩=>⟨c,cs,h1,(RA.ren hw x c hl.1).2 h2,(RAs.ren hw xs cs hl.2).2 h3⟩⟩
end
def AO.ren(js:List Nat):AO->AO
 | .row T cs=> .row T (AV.rens js cs)
 | .os T k v es=> .os T k v (es.map (AV.rens js))
 | .mp es=> .mp (es.map λp=>(p.1,p.2.ren js))
 | .fam T k v ess=> .fam T k v (ess.map λes=>es.map (AV.rens js))
 | .si s p=> .si s p
 | .mb es xs cl=> .mb es (AV.rens js xs) cl
 | .it src since seen stp=> .it (src.ren js) since seen stp
 | .lp s vs a b=> .lp s (AV.rens js vs) a b
 | .rsv=> .rsv
 | .dead=> .dead
theorem fF(js:List Nat):∀es:List (List AV),(es.map (AV.rens js)).flatten=AV.rens js es.flatten
 |[]=>rfl
 |e::es=>by simp only[List.map_cons,List.flatten_cons,fF js es,cY,List.map_append]
theorem OR.ren{js:List Nat}{m m0:List Cz}{φ w}(hw:Win js m m0){o:AO}{c:Cz}(hl:o.lt js.length=true):OR m φ w (o.ren js) c↔OR m0 φ w o c:=by
 cases o with
 |row T cs=>simp only[OR,AO.ren,RAs.ren hw cs _ hl]
 |os T k v es=>
  simp only[OR,AO.ren,fF,List.length_map,RAs.ren hw _ _ hl];have e1:(∀e∈es.map (AV.rens js),e.length=k)↔∀e∈es,e.length=k:=by simp only[List.mem_map];constructor;intro h e he;have:=h _ ⟨e,he,rfl⟩;rwa [cY,List.length_map] at this;rintro h e ⟨e',he,rfl⟩;rw[cY,List.length_map];exact h e' he
  simp only[e1]
 |mp es=>
  have e1:(es.map λp=>(p.1,p.2.ren js)).map (·.1)=es.map (·.1):=sM;have e2:(es.map λp=>(p.1,p.2.ren js)).map (·.2)=AV.rens js (es.map (·.2)):=by rw[cY];simp
  simp only[OR,AO.ren,e1,e2,RAs.ren hw _ _ hl]
 |fam T k v ess=>
  have e1:∀es:List (List AV),(∀e∈es.map (AV.rens js),e.length=k)↔∀e∈es,e.length=k:=λes=>by
   simp only[List.mem_map];constructor;intro h e he;have:=h _ ⟨e,he,rfl⟩;rwa [cY,List.length_map] at this;rintro h e ⟨e',he,rfl⟩;rw[cY,List.length_map];exact h e' he
  have e2:∀(es:List (List AV)),es∈ess->∀(y:Value),(∃xs,w.ownsRow 0 T k y (es.map (AV.rens js)).length xs/\RAs m φ w (es.map (AV.rens js)).flatten xs/\(∀e∈es.map (AV.rens js),e.length=k)/\∀b,y.ownBlock=some b->φ b=0)↔
    ∃xs,w.ownsRow 0 T k y es.length xs/\RAs m0 φ w es.flatten xs/\(∀e∈es,e.length=k)/\∀b,y.ownBlock=some b->φ b=0:=λes he y=>by
   simp only[fF,List.length_map,RAs.ren hw _ _ (m9 hl he),e1]
  simp only[OR,AO.ren,List.length_map,List.getElem?_map,Option.map_eq_some_iff];constructor;rintro⟨ys,h1,h2,h3,h4⟩;exact⟨ys,h1,h2,λj es y hj hy=>(e2 es (List.mem_of_getElem? hj) y).1 (h3 j _ y ⟨es,hj,rfl⟩ hy),h4⟩;rintro⟨ys,h1,h2,h3,h4⟩;refine⟨ys,h1,h2,λj es' y=>?_,h4⟩;rintro⟨es,hj,rfl⟩ hy;exact(e2 es (List.mem_of_getElem? hj) y).2 (h3 j es y hj hy)
 |si s p=>simp[OR,AO.ren]
 |mb es xs cl=>simp only[OR,AO.ren,RAs.ren hw _ _ hl]
 |it src since seen stp=>simp only[OR,AO.ren,RA.ren hw _ _ hl]
 |lp s vs a b=>simp only[OR,AO.ren,RAs.ren hw vs _ hl]
 |rsv=>simp[OR,AO.ren]
 |dead=>simp[OR,AO.ren]
theorem bI{js:List Nat}{o:AO}:(o.ren js).live=o.live:=by cases o<;>rfl
def bU:List Nat->List AO->List AO->List AO
 |j::js,o::os,st=>bU js os (st.set j o)
 |_,_,st=>st
def cT:List Nat->List Cz->List Cz->List Cz
 |j::js,c::cs,m=>cT js cs (m.set j c)
 |_,_,m=>m
theorem hG:∀{js:List Nat}{os st:List AO},js.Nodup->os.length=js.length->(∀j∈js,j<st.length)->∀(i:Nat),(∀(a:Nat),js[a]? =some i->(bU js os st)[i]? =os[a]?)/\(i∉js->(bU js os st)[i]? =st[i]?)
 |[],[],st,_,_,_,i=>by simp[bU]
 |j::js,o::os,st,hn,hl,hlt,i=>by
  obtain⟨h1,h2⟩:=List.nodup_cons.1 hn;have ih:=hG (js:=js) (os:=os) (st:=st.set j o) h2 (by simpa using hl) (λj' hj'=>by simpa using hlt j' (by simp[hj'])) i;simp only[bU];refine⟨λa ha=>?_,λhni=>?_⟩;cases a with
  |zero=>simp only[List.getElem?_cons_zero,ao] at ha;subst ha;rw[ih.2 h1];simp[hlt j sM]
  |succ a=>simpa using ih.1 a (by simpa using ha)
  have:i∉js/\j≠i:=by simp at hni;exact⟨hni.2,λh=>hni.1 h.symm⟩
  rw[ih.2 this.1];simp[this.2]
 |[],_::_,_,_,hl,_,_=>by simp at hl
 |_::_,[],_,_,hl,_,_=>by simp at hl
theorem jc:∀{js:List Nat}{os st:List Cz},js.Nodup->os.length=js.length->(∀j∈js,j<st.length)->∀(i:Nat),(∀(a:Nat),js[a]? =some i->(cT js os st)[i]? =os[a]?)/\(i∉js->(cT js os st)[i]? =st[i]?)
 |[],[],st,_,_,_,i=>by simp[cT]
 |j::js,o::os,st,hn,hl,hlt,i=>by
  obtain⟨h1,h2⟩:=List.nodup_cons.1 hn;have ih:=jc (js:=js) (os:=os) (st:=st.set j o) h2 (by simpa using hl) (λj' hj'=>by simpa using hlt j' (by simp[hj'])) i;simp only[cT];refine⟨λa ha=>?_,λhni=>?_⟩;cases a with
  |zero=>simp only[List.getElem?_cons_zero,ao] at ha;subst ha;rw[ih.2 h1];simp[hlt j sM]
  |succ a=>simpa using ih.1 a (by simpa using ha)
  have:i∉js/\j≠i:=by simp at hni;exact⟨hni.2,λh=>hni.1 h.symm⟩
  rw[ih.2 this.1];simp[this.2]
 |[],_::_,_,_,hl,_,_=>by simp at hl
 |_::_,[],_,_,hl,_,_=>by simp at hl
theorem eX:∀(js:List Nat)(os st:List AO),(bU js os st).length=st.length
 |j::js,o::os,st=>by rw[bU,eX js os,List.length_set]
 |[],_,_=>by simp[bU]
 |_::_,[],_=>by simp[bU]
theorem fB:∀(js:List Nat)(os st:List Cz),(cT js os st).length=st.length
 |j::js,o::os,st=>by rw[cT,fB js os,List.length_set]
 |[],_,_=>by simp[cT]
 |_::_,[],_=>by simp[cT]
def eK:List Nat->List AO->List AO->Prop
 |[],_,[]=>True
 |j::js,st,o::st0=>st[j]? =some o/\eK js st st0
 |_,_,_=>False
theorem dq:∀{js:List Nat}{st st0:List AO},eK js st st0->st0.length=js.length/\∀(a j:Nat),js[a]? =some j->st[j]? =st0[a]?/\j<st.length
 |[],_,[],_=>sM
 |j::js,st,o::st0,h=>by
  obtain⟨h1,h2⟩:=h;obtain⟨h3,h4⟩:=dq h2;refine⟨by simp[h3],λa j' ha=>?_⟩;cases a with
  |zero=>simp only[List.getElem?_cons_zero,ao] at ha;subst ha;exact⟨by simpa using h1,(giS.1 h1).1⟩
  |succ a=>simpa using h4 a j' (by simpa using ha)
 |[],_,_::_,h=>h.elim
 |_::_,_,[],h=>h.elim
def fK:List AO->Bool
 |[]=>true
 |o::l=>o.live&&fK l
theorem jN:∀{l:List AO},fK l=true->∀{i:Nat}{o:AO},l[i]? =some o->o.live=true
 |[],_,i,o,h=>by simp at h
 |p::l,hl,i,o,h=>by
  simp only[fK,Bool.and_eq_true] at hl;cases i with
  |zero=>simp only[List.getElem?_cons_zero,ao] at h;subst h;exact hl.1
  |succ i=>exact jN hl.2 (by simpa using h)
theorem nW{P:Program}{f:FuncId}{as0:List AV}{st0:List AO}{Q:AV->List AO->Prop}{js:List Nat}{m φ w}{st:List AO}{asz:List AV}{vs:List Value}
  (hc:Ctr P f as0 st0 Q)(hs:SR m φ st w)(ha:RAs m φ w asz vs)(hl:Les asz (AV.rens js as0))(hla:AV.lts js.length as0=true)(hj:js.Nodup)(hwin:eK js st (st0.map (AO.ren js)))(hlt:da js.length st0=true)(hlive:fK st0=true):
  Calls P f ⟨vs⟩ w λen w'=>∃v r st1 m1 φ',en= .returned v/\Q r st1/\(st0.length<=st1.length->da js.length (st1.take st0.length)=true->
   ∃m',Ev m φ w m' φ' w'/\SR m' φ' (bU js ((st1.take st0.length).map (AO.ren js)) st) w'/\(r.lt js.length=true->RA m' φ' w' (r.ren js) v))/\RA m1 φ' w' r v:=by
 obtain⟨hlen,hget⟩:=dq hwin;rw[List.length_map] at hlen;let m0:List Cz:=js.map λj=>m.getD j (.blk 0);have hW:Win js m m0:=λi j hij=>by
  have hjl:=(hget i j hij).2;have hjm:j<m.length:=by rw[hs.len];exact hjl
  simp only[m0,List.getElem?_map,hij,Option.map_some,List.getD_eq_getElem?_getD,geG hjm,Option.getD_some]
 have hm0:m0.length=js.length:=by simp[m0]
 have hs0:SR m0 φ st0 w:=by
  refine⟨by rw[hm0,hlen],λi o c h1 h2=>?_,hs.lt,λi j o o' c c' b h1 h2 l1 l2 h3 h4 h5 h6=>?_,hs.gl,λb ⟨i,c,h,h2⟩=>?_⟩;rotate_right;have hi:i<js.length:=by rw[<-hm0];exact(giS.1 h).1
  have h8:=hW i _ (geG hi);rw[h] at h8;exact hs.nb b ⟨_,c,h8.symm,h2⟩;have hi:i<js.length:=by rw[<-hlen];exact(giS.1 h1).1
  have hji:=geG hi;have h7:=(hget i _ hji).1;rw[List.getElem?_map,h1,Option.map_some] at h7;have h8:=hW i _ hji;rw[h2] at h8;exact(OR.ren hW (eu hlt h1)).1 (hs.obj _ _ _ h7 h8.symm);have hi:i<js.length:=by rw[<-hlen];exact(giS.1 h1).1
  have hi':j<js.length:=by rw[<-hlen];exact(giS.1 h2).1
  have hji:=geG hi;have hji':=geG hi';have h7:=(hget i _ hji).1;have h7':=(hget j _ hji').1;rw[List.getElem?_map,h1,Option.map_some] at h7;rw[List.getElem?_map,h2,Option.map_some] at h7';have h8:=hW i _ hji;have h8':=hW j _ hji';rw[h3] at h8;rw[h4] at h8';have:=hs.inj _ _ _ _ _ _ b h7 h7' (by rw[bI];exact l1) (by rw[bI];exact l2) h8.symm h8'.symm h5 h6;exact(List.getElem?_inj hi hj).1 (by rw[hji,hji',this])
 have ha0:RAs m0 φ w as0 vs:=(RAs.ren hW as0 vs hla).1 (hl.ras ha);refine(hc.2 m0 φ w vs hs0 ha0).mono ?_;rintro en w' ⟨v,r,st1,m1,φ',rfl,hQ,hev,hsr,hra⟩;refine⟨v,r,st1,m1,φ',rfl,hQ,λhle hlt1=>?_,hra⟩;have hm1:js.length<=m1.length:=by rw[hsr.len,<-hlen];exact hle
 let m':=cT js (m1.take js.length) m;let st':=bU js ((st1.take st0.length).map (AO.ren js)) st;have hjm:∀j∈js,j<m.length:=λj hj'=>by
  obtain⟨a,ha'⟩:=List.getElem?_of_mem hj';rw[hs.len];exact(hget a j ha').2
 have hjs:∀j∈js,j<st.length:=λj hj'=>by rw[<-hs.len];exact hjm j hj'
 have gm:=jc (js:=js) (os:=m1.take js.length) (st:=m) hj (by simp[hm1]) hjm;have gs:=hG (js:=js) (os:=(st1.take st0.length).map (AO.ren js)) (st:=st) hj (by simp[hlen];omega) hjs;have hW':Win js m' m1:=λi j hij=>by
  have hi:i<js.length:=(giS.1 hij).1;show _=(cT js (m1.take js.length) m)[j]?;rw[(gm j).1 i hij,List.getElem?_take,if_pos hi]
 have inm0:∀b,In m0 b->In m b:=by
  rintro b ⟨i,c,h1,h2⟩;have hi:i<js.length:=by rw[<-hm0];exact(giS.1 h1).1
  have h8:=hW i _ (geG hi);rw[h1] at h8;exact⟨_,c,h8.symm,h2⟩
 have hpre:Pre m m':=λi c hi=>by
  by_cases hij:i∈js;obtain⟨a,ha'⟩:=List.getElem?_of_mem hij;have h8:=hW a _ ha';rw[hi] at h8;obtain⟨c',h9,h10⟩:=hev.pre a c h8;refine⟨c',?_,h10⟩;have:=hW' a _ ha';rw[<-this];exact h9;exact⟨c,by show(cT js (m1.take js.length) m)[i]? =_;rw[(gm i).2 hij];exact hi,Cz.le_refl c⟩
 have hev':Ev m φ w m' φ' w':=by
  refine⟨hpre,?_,hev.os,hev.tape,hev.output,hev.size,λb hb hn=>hev.keep b hb (λh=>hn (inm0 b h)),hev.fz⟩;rintro b ⟨i,c,h1,h2⟩;by_cases hij:i∈js;obtain⟨a,ha'⟩:=List.getElem?_of_mem hij;have:=hW' a _ ha';rw[h1] at this;rcases hev.new b ⟨a,c,this,h2⟩ with h|h
  exact .inl (inm0 b h);exact .inr h;have h1':(cT js (m1.take js.length) m)[i]? =some c:=h1;rw[(gm i).2 hij] at h1';exact .inl ⟨i,c,h1',h2⟩
 have out:∀(i:Nat)(o:AO)(c:Cz)(b:Nat),i∉js->st[i]? =some o->o.live=true->m[i]? =some c->c.has b->¬In m0 b:=by
  rintro i o c b hij h1 hlv h2 h3 ⟨a,c',h4,h5⟩;have hi:a<js.length:=by rw[<-hm0];exact(giS.1 h4).1
  have hja:=geG hi;have h8:=hW a _ hja;rw[h4] at h8;have ha0:a<st0.length:=by rw[hlen];exact hi
  have h9:=(hget a _ hja).1;rw[List.getElem?_map,geG ha0,Option.map_some] at h9;have:=hs.inj _ _ _ _ _ _ b h1 h9 hlv (by rw[bI];exact jN hlive (geG ha0)) h2 h8.symm h3 h5;exact hij (this▸List.getElem_mem hi)
 have hst:∀(i:Nat)(o:AO),i∉js->st'[i]? =some o->st[i]? =some o:=λi o hij h=>by
  have:(bU js ((st1.take st0.length).map (AO.ren js)) st)[i]? =some o:=h;rwa [(gs i).2 hij] at this
 have hmm:∀(i:Nat)(c:Cz),i∉js->m'[i]? =some c->m[i]? =some c:=λi c hij h=>by
  have:(cT js (m1.take js.length) m)[i]? =some c:=h;rwa [(gm i).2 hij] at this
 have hst1:∀(a i:Nat)(o:AO),js[a]? =some i->st'[i]? =some o->∃o1,st1[a]? =some o1/\o=o1.ren js/\o1.lt js.length=true:=λa i o ha' h=>by
  have:(bU js ((st1.take st0.length).map (AO.ren js)) st)[i]? =some o:=h;rw[(gs i).1 a ha',List.getElem?_map] at this;have hal:a<st0.length:=by rw[hlen];exact(giS.1 ha').1
  cases ht:(st1.take st0.length)[a]? with
  |none=>rw[ht] at this;simp at this
  |some o1=>rw[ht,Option.map_some,ao] at this;exact⟨o1,(bL ht).2,this.symm,eu hlt1 ht⟩
 refine⟨m',hev',⟨?_,?_,hsr.lt,?_,hsr.gl,?_⟩,λhrl=>(RA.ren hW' r v hrl).2 hra⟩;rotate_right;rintro b ⟨i,c,h1,h2⟩;by_cases hij:i∈js;obtain⟨a,ha'⟩:=List.getElem?_of_mem hij;have:=hW' a _ ha';rw[h1] at this;exact hsr.nb b ⟨a,c,this,h2⟩;have h1':(cT js (m1.take js.length) m)[i]? =some c:=h1;rw[(gm i).2 hij] at h1';exact Nat.lt_of_lt_of_le (hs.nb b ⟨i,c,h1',h2⟩) hev.size;show(cT _ _ _).length=(bU _ _ _).length;rw[fB,eX];exact hs.len;intro i o c h1 h2;by_cases hij:i∈js;obtain⟨a,ha'⟩:=List.getElem?_of_mem hij;obtain⟨o1,h3,rfl,h4⟩:=hst1 a i o ha' h1;have h5:=hW' a i ha';rw[h2] at h5;exact(OR.ren hW' h4).2 (hsr.obj a o1 c h3 h5);have h1':=hst i o hij h1;have h2':=hmm i c hij h2;have hor:=hs.obj i o c h1' h2';cases hlv:o.live with
 |false=>cases o<;>first|trivial|exact h|(simp[AO.live] at hlv;done)
 |true=>exact hor.congr hpre hev.fz (λb hb=>hev.keep b (hor.block_lt hlv hb) (out i o c b hij h1' hlv h2' hb))
 intro i j o o' c c' b h1 h2 l1 l2 h3 h4 h5 h6;have mixed:∀(i j:Nat)(o o':AO)(c c':Cz),i∉js->j∈js->st'[i]? =some o->m'[i]? =some c->o.live=true->m'[j]? =some c'->c.has b->c'.has b->False:=by
  intro i j o o' c c' hi hj' g1 g2 g3 g4 g5 g6;obtain⟨a,ha'⟩:=List.getElem?_of_mem hj';have g1':=hst i o hi g1;have g2':=hmm i c hi g2;have h7:=hW' a _ ha';rw[g4] at h7;rcases hev.new b ⟨a,c',h7,g6⟩ with h|h
  exact out i o c b hi g1' g3 g2' g5 h;have:=(hs.obj i o c g1' g2').block_lt g3 g5;omega
 by_cases hi:i∈js;by_cases hj':j∈js;obtain⟨a,ha'⟩:=List.getElem?_of_mem hi;obtain⟨a2,ha2⟩:=List.getElem?_of_mem hj';obtain⟨o1,q1,rfl,_⟩:=hst1 a i o ha' h1;obtain⟨o2,q2,rfl,_⟩:=hst1 a2 j o' ha2 h2;have h7:=hW' a _ ha';have h8:=hW' a2 _ ha2;rw[h3] at h7;rw[h4] at h8;have:=hsr.inj a a2 o1 o2 c c' b q1 q2 (by rw[<-bI];exact l1) (by rw[<-bI];exact l2) h7 h8 h5 h6;subst this;rw[ha'] at ha2;exact inS ha2;exact(mixed j i o' o c' c hj' hi h2 h4 l2 h3 h6 h5).elim;by_cases hj':j∈js;exact(mixed i j o o' c c' hi hj' h1 h3 l1 h4 h5 h6).elim;exact hs.inj i j o o' c c' b (hst i o hi h1) (hst j o' hj' h2) l1 l2 (hmm i c hi h3) (hmm j c' hj' h4) h5 h6
section
variable{P:Program}{e:En}{ops:Array Oper}{rest:List Oper}{o:Oper}{env:Env}{st:List AO}{R:Env->List AO->Prop}{d:Nat}
def wa(k:Nat)(x:D)(new:List AO)(r:AV)(st1:List AO):Prop:=r= .d x/\k<=st1.length/\st1.take k=new
theorem gc{e:En}{fn:Func}{Q:AV->List AO->Prop}{r x:AV}{st2:List AO}(hr:Res P fn env st r)(hl:Le r x)(hwk:SLe st st2)(hQ:Q x st2)(hds:e.nd=true:=by rfl):WE P e .ret (.fin fn Q) env st:=λm φ a w hi=>by
 have h:=c6 (F:=EF e.rd) (n:=0) (e:=e) (Q:=λr' st'=>r'=x/\st'=st) (hr.le hl) ⟨rfl,rfl⟩ a.defers w (hi.df.marks' hds) hi.sr hi.env hi.ev;refine LeavesInM.mono (R:=c8 e λr' st'=>r'=x/\st'=st) ?_ _ _ _ h;rintro en w' ⟨v,r',st',m',φ',rfl,⟨rfl,rfl⟩,hev,hsr,hra⟩;exact⟨v,r',st2,m',φ',rfl,hQ,hev,hsr.weak hwk,hra⟩
theorem pF{fn:Func}{φ0 w0 n m0}{x:D}{r:AV}{new:List AO}{k:Nat}(hr:Res P fn env st r)(hl:Le r (.d x))(hk:k<=st.length)(hs:SLe (st.take k) new):WE P ⟨m0,φ0,w0,n,none,none⟩ .ret (.fin fn (wa k x new)) env st:=by
 have hwk:SLe st (new++st.drop k):=by
  have:∀(k:Nat)(st new:List AO),SLe (st.take k) new->SLe st (new++st.drop k):=by
   intro k;induction k with
   |zero=>
    intro st new h;cases new with
    |nil=>exact SLe.refl _
    |cons a l=>exact h.elim
   |succ k ih=>
    intro st new h;cases st with
    |nil=>
     cases new with
     |nil=>exact trivial
     |cons a l=>exact h.elim
    |cons b st=>
     cases new with
     |nil=>exact h.elim
     |cons a l=>exact⟨h.1,ih st l h.2⟩
  exact this k st new hs
 have hnl:new.length=k:=by rw[hs.length,List.length_take];omega
 refine gc hr hl hwk ⟨rfl,?_,?_⟩;rw[List.length_append,hnl];omega;rw[<-hnl,List.take_left]
end
end Go.Sk
namespace Go.Sk
open Go.RowKit (Below)
theorem SR.alter{m φ st w}{id:Nat}{o o':AO}(hs:SR m φ st w)(hi:st[id]? =some o)(hl:o.live=true)(h:∀c,m[id]? =some c->OR m φ w o c->OR m φ w o' c):SR m φ (st.set id o') w where
 len:=by rw[List.length_set];exact hs.len
 obj i p c h1 h2:=by by_cases hii:i=id;subst hii;rw[List.getElem?_set_self (giS.1 hi).1] at h1;simp only[ao] at h1;subst h1;exact h c h2 (hs.obj i o c hi h2);rw[List.getElem?_set_ne (Ne.symm hii)] at h1;exact hs.obj i p c h1 h2
 lt:=hs.lt
 inj i j p q c c' b h1 h2 l1 l2:=by
  have back:∀(i:Nat)(p:AO),(st.set id o')[i]? =some p->p.live=true->∃p2,st[i]? =some p2/\p2.live=true:=by intro i p g l;by_cases hii:i=id;subst hii;exact⟨_,hi,hl⟩;rw[List.getElem?_set_ne (Ne.symm hii)] at g;exact⟨p,g,l⟩
  obtain⟨p2,p3,p4⟩:=back i p h1 l1;obtain⟨q2,q3,q4⟩:=back j q h2 l2;exact hs.inj i j p2 q2 c c' b p3 q3 p4 q4
 gl:=hs.gl
 nb:=hs.nb
theorem qK{m φ w}:∀{xs:List AV}{vs:List Value}{i:Nat}{x y:AV},RAs m φ w xs vs->xs[i]? =some x->(∀v,RA m φ w x v->RA m φ w y v)->RAs m φ w (xs.set i y) vs
 |[],vs,i,x,y,_,hi,_=>by simp at hi
 |p::xs,vs,i,x,y,h,hi,hy=>by
  simp only[RAs] at h;obtain⟨c,cs,rfl,h1,h2⟩:=h;cases i with
  |zero=>simp only[List.getElem?_cons_zero,ao] at hi;subst hi;exact aC (hy c h1) h2
  |succ i=>exact aC h1 (qK h2 (by simpa using hi) hy)
section
variable{P:Program}{e:En}{ops:Array Oper}{l rest:List Oper}{env:Env}{st:List AO}{R:Env->List AO->Prop}{K:Ko}
 {dst:Option Tmp}{ty:TypeId}{pos:String}{after:Array Edge}{guard:Option (Nat×Bool)}
theorem Inv.nil_cell{m φ a w}{id off T k T':Nat}{cs:List AV}(hi:Inv e m φ env st a w)(hs:st[id]? =some (.row T' cs))(hc:cs[off]? =some (.d (.v (.slice none 0 0)))):
  ∃m',Inv e m' φ env ((st++ [AO.os T k 0 []]).set id (.row T' (cs.set off (.os st.length 0)))) a w:=by
 obtain⟨h1,h2⟩:=jW (T:=T) (k:=k) hi.sr;have h3:=hi.go h1 h2;have hid:id<st.length:=(giS.1 hs).1;refine⟨_,⟨h3.sr.alter (o:= .row T' cs) (by rw[List.getElem?_append_left hid];exact hs) rfl ?_,h3.ev,h3.env,h3.sz,h3.df⟩⟩;rintro c _ ⟨b,g1,g2,vs,g3,g4⟩;refine⟨b,g1,g2,vs,g3,qK g4 hc λv hv=>?_⟩;simp only[RA,RD] at hv⊢;subst hv;exact⟨0,_,by rw[<-hi.sr.len];simp,Nat.le_refl _,λ_=>rfl⟩
theorem WL.nil_cell(id off T k:Nat){T':TypeId}{cs:List AV}(hs:st[id]? =some (.row T' cs))(hc:cs[off]? =some (.d (.v (.slice none 0 0))))(h:WL P e ops l env ((st++ [AO.os T k 0 []]).set id (.row T' (cs.set off (.os st.length 0)))) R):WL P e ops l env st R:=λ_m φ a w hi=>
 let ⟨m',hi'⟩:=hi.nil_cell (T:=T) (k:=k) hs hc
 h m' φ a w hi'
theorem aR{T:TypeId}{x y:Operand}{id off:Nat}{T':TypeId}{cs:List AV}{r:AV}(hx:opv env x=some (.pt id off))(hs:st[id]? =some (.row T' cs))(hy:opv env y=some r)
  (hone:∀m φ w v,SR m φ st w->RA m φ w r v->v.oneCell'=true/\v.cells= #[v])(hn:bn P T=some 1)(hlen:Nat.ble (off+1) cs.length=true):
  Does P env st ⟨dst, .store T x y,ty,pos,after,guard⟩ (.d (.v undef)) (st.set id (.row T' (cs.take off++ [r]++cs.drop (off+1)))):=λm φ a w hsr he=>by
 obtain⟨b,h1,h2⟩:=eZ he hx;obtain⟨b',hbb,_,vs,h3,h4⟩:=hsr.obj id _ _ hs h1;simp only[Cz.blk.injEq] at hbb;subst hbb;have g2:=bc he hy;obtain⟨o1,o2⟩:=hone m φ w _ hsr g2;have hvl:=aS h4;have hle:=nbT hlen;have g2':RAs m φ w [r] [a.eval y]:=aC g2 bB;have hst:=run_storeCells_at P b off T' [a.eval y] 0 ⟨vs⟩ w h3 (by simp;omega) (by simpa using o1);simp only[Nat.add_zero,List.length_singleton] at hst;have hnew:RAs m φ w (cs.take off++ [r]++cs.drop (off+1)) (vs.take off++ [a.eval y]++vs.drop (off+1)):=aH (aH (bT off h4) g2') (cz _ h4);obtain⟨k1,k2⟩:=mS hsr hs h1 hnew;refine⟨undef,_,m,φ, .inr ⟨?_,rfl⟩,k1,k2,RAv⟩;simp[execOp,Instr.storeAt,Instr.sureAddr,h2,storeVar,o2,ax hn,hst]
theorem bh{id ver T k:Nat}{es:List (List AV)}(hs:st[id]? =some (.os T k ver es)):∀m φ w v,SR m φ st w->RA m φ w (.os id ver) v->v.oneCell'=true/\v.cells= #[v]:=λm φ w v hsr h=>by
 simp only[RA] at h;obtain⟨v0,y0,h1,_,h3⟩:=h;obtain⟨y,xs,q1,q2,_⟩:=hsr.obj id _ _ hs h1;simp only[Cz.tok.injEq] at q1;obtain⟨rfl,rfl⟩:=q1;have:=h3 rfl;subst this;rcases q2.2 with⟨rfl,_⟩|⟨g,cap,cur,rfl,_⟩<;>exact⟨rfl,rfl⟩
theorem qu(n:Nat):∀ds:List D,AV.lts n (ds.map AV.d)=true
 |[]=>rfl
 |d::ds=>by rw[List.map_cons,AV.lts,qu n ds];rfl
theorem kN(n:Nat):∀xs ys:List AV,AV.lts n xs=true->AV.lts n ys=true->AV.lts n (xs++ys)=true
 |[],ys,_,h=>h
 |x::xs,ys,h,k=>by
  simp only[AV.lts,Bool.and_eq_true] at h;rw[List.cons_append,AV.lts,h.1,kN n xs ys h.2 k];rfl
theorem qv{α:Type}(n T k v:Nat)(E:α->List D):∀L:List α,AO.lt n (.os T k v (L.map (aJ E)))=true
 |[]=>rfl
 |x::L=>by
  have:=qv n T k v E L;simp only[AO.lt] at this⊢;rw[List.map_cons,List.flatten_cons];exact kN n _ _ (qu n _) this
theorem ap{κ α:Type}[DecidableEq κ](n:Nat)(kf:κ->Value)(g:α->D):∀L:List (κ×α),AO.lt n (.mp (L.map λp=>(kf p.1,AV.d (g p.2))))=true
 |[]=>rfl
 |x::L=>by
  have:=ap n kf g L;simp only[AO.lt] at this⊢;rw[List.map_cons,List.map_cons,AV.lts,this];rfl
theorem ab{n:Nat}{o:AO}{l:List AO}(h:o.lt n=true)(k:da n l=true):da n (o::l)=true:=by rw[da,h,k];rfl
def iH(k:Nat)(x:D)(new:Nat->List AO)(r:AV)(st1:List AO):Prop:=∃i,wa k x (new i) r st1
theorem uC{o:Oper}{d:Nat}{f:FuncId}{c:Call}{x:Operand}{first caps asz as0:List AV}{st0:List AO}{new:Nat->List AO}{y:D}(js:List Nat)(hop:o.op= .call c)(hx:c.callee= .value x)
  (hf:opv env x=some (.fn (.func f) first caps))(has:c4 env c.args.toList=some asz)(hc:Ctr P f as0 st0 (iH st0.length y new))(hl:Les (first++asz++caps) (AV.rens js as0))
  (hla:AV.lts js.length as0=true)(hj:js.Nodup)(hwin:eK js st (st0.map (AO.ren js)))(hlt:da js.length st0=true)(hlive:fK st0=true)(hnew:∀i,da js.length (new i)=true)
  (hw:Wt ops env o true)(ho:o.dst=some d)(hd:Nat.ble (d+1) e.n=true)(h:∀i,WL P e ops rest ((d, .d y)::env) (bU js ((new i).map (AO.ren js)) st) R):WL P e ops (o::rest) env st R:=λm φ a w hi=>by
 obtain⟨vs,h1,h2⟩:=fb (P:=P) hi.env hop hx hf has hc.1;unfold d5;rw[if_pos (hw _ _ _ _ hi.env)];refine .inl ?_;simp only[Oper.wp,h2,Oper.upon,ho];refine(nW hc hi.sr h1 hl hla hj hwin hlt hlive).mono ?_;rintro en w' ⟨v,r,st1,m1,φ',rfl,⟨i,rfl,q1,q2⟩,hQ,hra⟩;obtain⟨m',hev,hsr,hr⟩:=hQ q1 (by rw[q2];exact hnew i);have:=hr rfl;rw[q2] at hsr;exact h i m' φ' _ w' (hi.ev_put hev hsr (nbT hd) (by simpa[AV.ren] using this))
theorem nY{fn:Func}{φ0 w0 n m0}{x:D}{r:AV}{new:Nat->List AO}{k:Nat}(i:Nat)(hr:Res P fn env st r)(hl:Le r (.d x))(hk:Nat.ble k st.length=true)(hs:SLe (st.take k) (new i)):WE P ⟨m0,φ0,w0,n,none,none⟩ .ret (.fin fn (iH k x new)) env st:=λm φ a w hi=>by
 have:=pF (φ0:=φ0) (w0:=w0) (n:=n) (m0:=m0) hr hl (nbT hk) hs m φ a w hi;refine LeavesInM.mono (R:=c8 ⟨m0,φ0,w0,n,none,none⟩ (wa k x (new i))) ?_ _ _ _ this;rintro en w' ⟨v',r',st',m',φ',h3,h4,h5⟩;exact⟨v',r',st',m',φ',h3,⟨i,h4⟩,h5⟩
end
end Go.Sk
