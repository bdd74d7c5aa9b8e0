/- Part of the proof. -/
import Derived.KernelRfl
import Derived.Test.YtlkhnkpflmpjhaaGreatDoorO
set_option linter.all false
set_option maxRecDepth 10000
namespace Go.Proofs.YtlkhnkpflmpjhaaGreatDoor
open Go Go.Sk
open Go.IntKind (i64)
theorem w64{x:Int}(h1: -9223372036854775808<=x)(h2:x<=9223372036854775807):i64.wrap x=x:=by rw[IntKind.wrap_i64];omega
theorem aw{α β:Sort _}(k:α)(f:α->β):letk k f=f k:=rfl
theorem aE{α:Type}{L:List α}{i:Nat}(h:i<L.length):idx L (i:Int)=some L[i]:=by unfold idx;rw[dcT (Int.natCast_nonneg i)];simp[h]
theorem dp{α:Type}{L:List α}{i:Int}(h:¬(0<=i/\i<L.length)):idx L i=none:=by grind [idx]
theorem db{α:Type}{L:List α}{i:Int}{x:α}(h:idx L i=some x):0<=i/\i<L.length:=⟨ai h,fj h⟩
theorem aI{α:Type}{L:List α}{i:Int}(h:0<=i/\i<L.length):∃x,idx L i=some x/\x∈L:=by obtain⟨n,rfl⟩:=Int.eq_ofNat_of_zero_le h.1;exact⟨_,aE (show n<L.length by omega),List.getElem_mem _⟩
theorem cO{α:Type}{L:List α}{i:Int}{x:α}(h:idx L i=some x):x∈L:=List.mem_of_getElem? (bg h)
theorem aV{α:Type}{L:List α}{i:Nat}(h:i<L.length):L.drop i=L[i]::L.drop (i+1):=List.drop_eq_getElem_cons h
theorem bR{α:Type}{c:Bool}(o:Option α)(h:c=true):aH c o=o:=by rw[h];rfl
theorem tQ{κ α:Type}[DecidableEq κ](m:List (κ×α))(k:κ)(v:α)(x:κ):bT (bP m k v) x=if k=x then some v else bT m x:=by
 induction m with
 |nil=>simp[bP,bT]
 |cons p r ih=>grind [bP,bT]
def inM{κ:Type}[DecidableEq κ](m:List (κ×Bool))(x:κ):Bool:=Option.getD (bT m x) false
theorem o7{κ:Type}[DecidableEq κ](m:List (κ×Bool))(k x:κ):inM (bP m k true) x=(decide (k=x)||inM m x):=by grind [inM,tQ]
theorem f111_l1_eq(L:List cq)(cb:cq->Option Bool)(p:cq->Bool)(hl:L.length<9223372036854775808):∀(n i:Nat)(z:Int),z=(i:Int)->i<=L.length->L.length<n+i->(∀x∈L.drop i,cb x=some (p x))->∃r,f111_l1 L cb (λ_=>some (-1)) n z=some r/\decide (r>=0)=(L.drop i).any p
 |0,i,z,_,_,h,_=>oM
 |n+1,i,z,hz,hi,h,hp=>by
  subst hz;rw[f111_l1];by_cases hh:i<L.length;rw[aV hh] at hp⊢;rw[dcT (by omega:(i:Int)<(L.length:Int)),cdT,aE hh,bnS,hp _ List.mem_cons_self,bnS,List.any_cons];cases hc:p L[i];rw[cdF,w64 oM oM,Bool.false_or];exact f111_l1_eq L cb p hl n (i+1) _ (by push_cast;rfl) oM oM (λx hx=>hp x (List.mem_cons_of_mem _ hx));grind;rw[dcF (by omega:¬(i:Int)<(L.length:Int)),cdF,List.drop_eq_nil_of_le oM];grind
theorem f111_eq(L:List cq)(cb:cq->Option Bool)(p:cq->Bool)(hl:L.length<9223372036854775808)(hp:∀x∈L,cb x=some (p x)):∃r,f111 L cb=some r/\decide (r>=0)=L.any p:=by unfold f111;exact f111_l1_eq L cb p hl _ 0 0 rfl (Nat.zero_le _) oM hp
theorem f81_eq(L:List cq)(cb:cq->Option Bool)(p:cq->Bool)(hl:L.length<9223372036854775808)(hp:∀x∈L,cb x=some (p x)):f81 L cb=some (L.any p):=by obtain⟨r,h1,h2⟩:=f111_eq L cb p hl hp;grind [f81]
theorem f144_l1_eq(L:List Int)(cb:Int->Option Bool)(p:Int->Bool)(hl:L.length<9223372036854775808):∀(n i:Nat)(z:Int),z=(i:Int)->i<=L.length->L.length<n+i->(∀x∈L.drop i,cb x=some (p x))->∃r,f144_l1 L cb (λ_=>some (-1)) n z=some r/\decide (r>=0)=(L.drop i).any p
 |0,i,z,_,_,h,_=>oM
 |n+1,i,z,hz,hi,h,hp=>by
  subst hz;rw[f144_l1];by_cases hh:i<L.length;rw[aV hh] at hp⊢;rw[dcT (by omega:(i:Int)<(L.length:Int)),cdT,aE hh,bnS,hp _ List.mem_cons_self,bnS,List.any_cons];cases hc:p L[i];rw[cdF,w64 oM oM,Bool.false_or];exact f144_l1_eq L cb p hl n (i+1) _ (by push_cast;rfl) oM oM (λx hx=>hp x (List.mem_cons_of_mem _ hx));grind;rw[dcF (by omega:¬(i:Int)<(L.length:Int)),cdF,List.drop_eq_nil_of_le oM];grind
theorem f144_eq(L:List Int)(cb:Int->Option Bool)(p:Int->Bool)(hl:L.length<9223372036854775808)(hp:∀x∈L,cb x=some (p x)):∃r,f144 L cb=some r/\decide (r>=0)=L.any p:=by unfold f144;exact f144_l1_eq L cb p hl _ 0 0 rfl (Nat.zero_le _) oM hp
theorem f109_eq(L:List Int)(cb:Int->Option Bool)(p:Int->Bool)(hl:L.length<9223372036854775808)(hp:∀x∈L,cb x=some (p x)):f109 L cb=some (L.any p):=by obtain⟨r,h1,h2⟩:=f144_eq L cb p hl hp;grind [f109]
theorem f90_l1_eq(L:List aG)(cb:aG->Option Bool)(p:aG->Bool)(hl:L.length<9223372036854775808):∀(n i:Nat)(z:Int),z=(i:Int)->i<=L.length->L.length<n+i->(∀x∈L.drop i,cb x=some (p x))->∃r,f90_l1 L cb (λ_=>some (-1)) n z=some r/\decide (r>=0)=(L.drop i).any p
 |0,i,z,_,_,h,_=>oM
 |n+1,i,z,hz,hi,h,hp=>by
  subst hz;rw[f90_l1];by_cases hh:i<L.length;rw[aV hh] at hp⊢;rw[dcT (by omega:(i:Int)<(L.length:Int)),cdT,aE hh,bnS,hp _ List.mem_cons_self,bnS,List.any_cons];cases hc:p L[i];rw[cdF,w64 oM oM,Bool.false_or];exact f90_l1_eq L cb p hl n (i+1) _ (by push_cast;rfl) oM oM (λx hx=>hp x (List.mem_cons_of_mem _ hx));grind;rw[dcF (by omega:¬(i:Int)<(L.length:Int)),cdF,List.drop_eq_nil_of_le oM];grind
theorem f90_eq(L:List aG)(cb:aG->Option Bool)(p:aG->Bool)(hl:L.length<9223372036854775808)(hp:∀x∈L,cb x=some (p x)):∃r,f90 L cb=some r/\decide (r>=0)=L.any p:=by unfold f90;exact f90_l1_eq L cb p hl _ 0 0 rfl (Nat.zero_le _) oM hp
theorem f58_eq(L:List aG)(cb:aG->Option Bool)(p:aG->Bool)(hl:L.length<9223372036854775808)(hp:∀x∈L,cb x=some (p x)):f58 L cb=some (L.any p):=by obtain⟨r,h1,h2⟩:=f90_eq L cb p hl hp;grind [f58]
def spot(os:List Obj)(o from_ many:Int):Bool:=match idx os o with
 |some x=>decide (0<=from_)&&decide (from_<=i64.wrap (x.size - many))
 |none=>false
theorem f79_eq(t:ah)(o f m:Int):f79 ⟨t⟩ o f m=some (spot t.objs o f m):=by unfold f79 spot;by_cases h:0<=o/\o<t.objs.length;obtain⟨x,hx,_⟩:=aI h;grind;grind [dp]
theorem eS{os:List Obj}{o f m:Int}(h:spot os o f m=true):∃x,idx os o=some x/\0<=f/\f<=i64.wrap (x.size - m):=by grind [spot,idx]
def fits(o:Obj)(v:Int):Bool:=bif o.ptr then decide (v=0)||o.set_.any (λn=>f110 n v) else decide (v>=o.lo)&&decide (v<=o.hi)
theorem f80_eq(o:Obj)(v:Int)(hl:o.set_.length<9223372036854775808):f80 o v=some (fits o v):=by grind [f80,fits,f109_eq,f110]
def aim(os:List Obj)(x:Int):Bool:=match idx os x with
 |some y=>decide (y.size=1)&& !y.ptr
 |none=>false
def gt(os:List Obj):Int->List Int->Bool
 |_,[]=>true
 |last,x::r=>decide (last<x)&&aim os x&&gt os x r
def eI(os:List Obj)(o:Obj):Bool:=
 !((decide (o.size<1)||decide (o.size>16384))||decide (o.lo>o.hi))&&bif !o.ptr then decide ((o.set_.length:Int)=0) else gt os (-1) o.set_&&(decide (o.lo=0)&&decide (o.hi=0))
theorem f78_l1_eq(t:ah)(o:Obj)(r:Option Bool)(hl:o.set_.length<9223372036854775808):∀(n i:Nat)(z last:Int),z=(i:Int)->i<=o.set_.length->o.set_.length<n+i->-1<=last->
  f78_l1 ⟨t⟩ o (λ_=>r) n last z=bif gt t.objs last (o.set_.drop i) then r else some false
 |0,i,z,last,_,_,h,_=>oM
 |n+1,i,z,last,hz,hi,h,hla=>by
  subst hz;rw[f78_l1];by_cases hh:i<o.set_.length;rw[aV hh,gt];rw[dcT (by omega:(i:Int)<(o.set_.length:Int)),cdT,aE hh,bnS];generalize o.set_[i]=x;dsimp only;by_cases h1:last<x;rw[dcT h1,dcF (show¬x<=last by omega),Bool.false_or,Bool.true_and];unfold aim;by_cases h2:x<t.objs.length;obtain⟨y,hy,_⟩:=aI (L:=t.objs) (i:=x) oM;rw[dcF (show¬x>=(t.objs.length:Int) by omega),cdF,hy];simp only[bnS];by_cases h3:y.size=1;rw[dcT h3];cases h4:y.ptr;rw[w64 oM oM];exact f78_l1_eq t o r hl n (i+1) _ x (by push_cast;rfl) oM oM oM;rfl;grind;grind [dp];grind;rw[dcF (by omega:¬(i:Int)<(o.set_.length:Int)),cdF,List.drop_eq_nil_of_le oM];rfl
theorem f78_eq(t:ah)(o:Obj)(hl:o.set_.length<9223372036854775808):f78 ⟨t⟩ o=some (eI t.objs o):=by unfold f78 eI;cases h1:(decide (o.size<1)||decide (o.size>16384))||decide (o.lo>o.hi);rw[cdF,aw,Bool.not_false,Bool.true_and];cases h2:o.ptr;rfl;rw[Bool.not_true,cdF,cdF,f78_l1_eq t o _ hl _ 0 0 (-1) rfl (Nat.zero_le _) oM oM,List.drop_zero];grind;rfl
def ro(n:Int)(L:List Obj):Int:=L.foldl (λn x=>i64.wrap (n+x.size)) n
theorem f50_l1_eq(t:ah)(k:Int->Option Bool)(hl:t.objs.length<9223372036854775808)(hs:∀o∈t.objs,o.set_.length<9223372036854775808):∀(n i:Nat)(z a:Int),z=(i:Int)->i<=t.objs.length->t.objs.length<n+i->
  f50_l1 ⟨t⟩ k n a z=bif (t.objs.drop i).all (eI t.objs) then k (ro a (t.objs.drop i)) else some false
 |0,i,z,a,_,_,h=>oM
 |n+1,i,z,a,hz,hi,h=>by
  subst hz;rw[f50_l1];by_cases hh:i<t.objs.length;rw[aV hh,List.all_cons,dcT (by omega:(i:Int)<(t.objs.length:Int)),cdT,aE hh,bnS,f78_eq t _ (hs _ (List.getElem_mem _)),bnS,w64 (x:=(i:Int)+1) oM oM];cases hc:eI t.objs t.objs[i];rfl;rw[Bool.not_true,cdF,Bool.true_and,f50_l1_eq t k hl hs n (i+1) _ _ (by push_cast;rfl) oM oM];rfl;rw[dcF (by omega:¬(i:Int)<(t.objs.length:Int)),cdF,List.drop_eq_nil_of_le oM];rfl
def dA(os:List Obj)(x:dO):Bool:=spot os x.o x.slot 1&&(match idx os x.o with|some y=>fits y x.v|none=>false)
def dT(os:List Obj):List ((Int×Int)×Bool)->List dO->Bool
 |_,[]=>true
 |m,x::r=>(!(inM m (x.o,x.slot)))&&dA os x&&dT os (bP m (x.o,x.slot) true) r
theorem f50_l2_eq(t:ah)(r:Option Bool)(hl:t.inits.length<9223372036854775808)(hs:∀o∈t.objs,o.set_.length<9223372036854775808):∀(n i:Nat)(z:Int)(m:List ((Int×Int)×Bool)),z=(i:Int)->i<=t.inits.length->t.inits.length<n+i->
  f50_l2 ⟨t⟩ (λ_=>r) n z m=bif dT t.objs m (t.inits.drop i) then r else some false
 |0,i,z,m,_,_,h=>oM
 |n+1,i,z,m,hz,hi,h=>by
  subst hz;rw[f50_l2];by_cases hh:i<t.inits.length;rw[aV hh,dT,dcT (by omega:(i:Int)<(t.inits.length:Int)),cdT,aE hh,bnS];generalize t.inits[i]=x;rw[f79_eq,w64 oM oM,f50_l2_eq t r hl hs n (i+1) _ _ (by push_cast;rfl) oM oM];show Option.bind (bif inM m (x.o,x.slot) then _ else _) _=_;cases hm:inM m (x.o,x.slot);unfold dA;cases hsp:spot t.objs x.o x.slot 1;rfl;obtain⟨y,hy,_⟩:=eS hsp;rw[hy];simp only[Bool.not_false,Bool.not_true,bnS,cdF,Bool.true_and];rw[f80_eq _ _ (hs _ (cO hy))];cases fits y x.v<;>rfl;rfl;rw[dcF (by omega:¬(i:Int)<(t.inits.length:Int)),cdF,List.drop_eq_nil_of_le oM];rfl
def iy(t:ah):Bool:= !((decide ((t.objs.length:Int)>4096)||decide (t.excs<4))||decide (t.excs>64))&&(t.objs.all (eI t.objs)&&(dT t.objs [] t.inits&&decide (ro 0 t.objs<=65536)))
theorem f50_eq(t:ah)(hl:t.inits.length<9223372036854775808)(hs:∀o∈t.objs,o.set_.length<9223372036854775808):f50 ⟨t⟩=some (iy t):=by
 unfold f50 iy;dsimp only;cases h1:(decide ((t.objs.length:Int)>4096)||decide (t.excs<4))||decide (t.excs>64);have hol:(t.objs.length:Int)<=4096:=by simp_all
 rw[cdF,aw,f50_l1_eq t _ oM hs _ 0 0 0 rfl (Nat.zero_le _) oM,aw,f50_l2_eq t _ hl hs _ 0 0 [] rfl (Nat.zero_le _) oM];grind;rfl
def at1(t:ah)(a:Int):Bool:=decide (a>=0)&&decide (a<(t.insns.length:Int))
theorem f75_eq(t:ah)(a:Int):f75 ⟨t⟩ a=at1 t a:=rfl
theorem fx{t:ah}{a:Int}:at1 t a=true↔0<=a/\a<(t.insns.length:Int):=by unfold at1;simp only[Bool.and_eq_true,decide_eq_true_eq,ge_iff_le]
def oX(os:List Obj)(x:Int):Bool:=match idx os x with
 |some y=>decide (y.size=1)
 |none=>false
theorem f112_eq(t:ah)(x:Int):f112 x ⟨t⟩=some (!(oX t.objs x)):=by unfold f112 oX;by_cases h:0<=x/\x<t.objs.length;obtain⟨y,hy,_⟩:=aI h;grind;grind [dp]
def dU(os:List Obj)(l:List Int):Bool:=decide ((l.length:Int)<=8)&&l.all (oX os)
theorem te{α:Type}(p:α->Bool)(L:List α):(!(L.any λx=> !(p x)))=L.all p:=by grind
theorem f83_eq(t:ah)(l:List Int):f83 ⟨t⟩ l=some (dU t.objs l):=by unfold f83 dU;by_cases h:(l.length:Int)<=8;rw[dcT h,cdT,f109_eq l _ (λx=> !(oX t.objs x)) oM λx _=>f112_eq t x,bnS,te];rfl;grind
def eG(os:List Obj)(e:cq):Bool:=dU os e.ins&&dU os e.outs
theorem f82_eq(t:ah)(e:cq):f82 e ⟨t⟩=some (!(eG t.objs e)):=by unfold f82 eG;rw[f83_eq,f83_eq];cases dU t.objs e.ins<;>cases dU t.objs e.outs<;>rfl
def eo(t:ah)(x:bK):Bool:= !(((((decide (x.prio<0)||decide (x.prio>31))||(!(at1 t x.at_)))||decide (x.deadline<0))||decide (x.deadline>2147483647))||decide ((x.entries.length:Int)>8))&&x.entries.all (eG t.objs)
theorem f51_l1_eq(t:ah)(r:Option Bool)(hl:t.tasks.length<9223372036854775808):∀(n i:Nat)(z:Int),z=(i:Int)->i<=t.tasks.length->t.tasks.length<n+i->
  f51_l1 ⟨t⟩ (λ_=>r) n z=bif (t.tasks.drop i).all (eo t) then r else some false
 |0,i,z,_,_,h=>oM
 |n+1,i,z,hz,hi,h=>by
  subst hz;rw[f51_l1];by_cases hh:i<t.tasks.length;rw[aV hh,List.all_cons,dcT (by omega:(i:Int)<(t.tasks.length:Int)),cdT,aE hh,bnS,f75_eq];unfold eo;generalize t.tasks[i]=x;cases hc:((((decide (x.prio<0)||decide (x.prio>31))||(!(at1 t x.at_)))||decide (x.deadline<0))||decide (x.deadline>2147483647))||decide ((x.entries.length:Int)>8);have he:(x.entries.length:Int)<=8:=by simp_all
  rw[cdF,f81_eq x.entries _ (λe=> !(eG t.objs e)) oM λe _=>f82_eq t e,bnS,<-te (eG t.objs),w64 oM oM,f51_l1_eq t r hl n (i+1) _ (by push_cast;rfl) oM oM];cases x.entries.any λe=> !(eG t.objs e)<;>rfl;rfl;grind
def dX(t:ah):Bool:= !(decide ((t.tasks.length:Int)<1)||decide ((t.tasks.length:Int)>32))&&t.tasks.all (eo t)
theorem f51_eq(t:ah):f51 ⟨t⟩=some (dX t):=by
 unfold f51 dX;dsimp only;cases h1:decide ((t.tasks.length:Int)<1)||decide ((t.tasks.length:Int)>32);have hol:(t.tasks.length:Int)<=32:=by simp_all
 rw[cdF,aw,f51_l1_eq t _ oM _ 0 0 rfl (Nat.zero_le _) oM,List.drop_zero];grind;rfl
def gO(n:Int):List (Int×Bool)->List Int->Bool
 |_,[]=>true
 |m,x::r=>(!((decide (x<1)||decide (x>=n))||inM m x))&&gO n (bP m x true) r
theorem f52_l2_eq(t:ah)(l:List Int)(r:Option Bool)(hl:l.length<9223372036854775808):∀(n i:Nat)(z:Int)(m:List (Int×Bool)),z=(i:Int)->i<=l.length->l.length<n+i->
  f52_l2 ⟨t⟩ l (λ_=>r) n z m=bif gO t.tasks.length m (l.drop i) then r else some false
 |0,i,z,m,_,_,h=>oM
 |n+1,i,z,m,hz,hi,h=>by
  subst hz;rw[f52_l2];by_cases hh:i<l.length;rw[aV hh,gO,dcT (by omega:(i:Int)<(l.length:Int)),cdT,aE hh,bnS,w64 oM oM,f52_l2_eq t l r hl n (i+1) _ _ (by push_cast;rfl) oM oM];grind [inM];rw[dcF (by omega:¬(i:Int)<(l.length:Int)),cdF,List.drop_eq_nil_of_le oM];rfl
def mG(t:ah)(l:List Int):Bool:=gO t.tasks.length [] l&& !(decide ((l.length:Int)>32))
theorem f52_l1_eq(t:ah)(r:Option Bool)(hl:t.lists.length<9223372036854775808)(hs:∀l∈t.lists,l.length<9223372036854775808):∀(n i:Nat)(z:Int),z=(i:Int)->i<=t.lists.length->t.lists.length<n+i->
  f52_l1 ⟨t⟩ (λ_=>r) n z=bif (t.lists.drop i).all (mG t) then r else some false
 |0,i,z,_,_,h=>oM
 |n+1,i,z,hz,hi,h=>by
  subst hz;rw[f52_l1];by_cases hh:i<t.lists.length;rw[aV hh,List.all_cons,dcT (by omega:(i:Int)<(t.lists.length:Int)),cdT,aw,aE hh,bnS,aw];have hx:=hs _ (List.getElem_mem hh);generalize t.lists[i]=x at hx;unfold mG;rw[f52_l2_eq t x _ hx _ 0 0 [] rfl (Nat.zero_le _) oM,w64 oM oM,f52_l1_eq t r hl hs n (i+1) _ (by push_cast;rfl) oM oM,List.drop_zero];cases gO t.tasks.length [] x<;>cases decide ((x.length:Int)>32)<;>rfl;grind
def jG(t:ah):Bool:= !(decide ((t.lists.length:Int)>4096))&&t.lists.all (mG t)
theorem f52_eq(t:ah)(hs:∀l∈t.lists,l.length<9223372036854775808):f52 ⟨t⟩=some (jG t):=by
 unfold f52 jG;dsimp only;cases h1:decide ((t.lists.length:Int)>4096);have hol:(t.lists.length:Int)<=4096:=by simp_all
 rw[cdF,aw,f52_l1_eq t _ oM hs _ 0 0 rfl (Nat.zero_le _) oM,List.drop_zero];grind;rfl
def gz(t:ah)(obj:Int)(a:dI):Bool:=
 at1 t a.at_&&(decide (a.guard= -1)||spot t.objs obj a.guard 1)&&
 bif decide (a.kind=1) then(decide (a.entry>=0)&&decide (a.entry<8))&&decide (a.time=0)
 else bif decide (a.kind=2)||decide (a.kind=3) then decide (a.entry=0)&&spot t.objs obj a.time 1
 else decide (a.kind=4)&&decide ((i64.wrap (BitVec.ofInt i64.bits a.entry|||BitVec.ofInt i64.bits a.time).toNat)=0)
theorem f117_eq(t:ah)(n o:Int):f117 n ⟨t⟩ o=some (spot t.objs o n 1):=by unfold f117;rw[f79_eq];rfl
theorem f87_eq(t:ah)(o:Int)(a:dI):f87 ⟨t⟩ o a=some (gz t o a):=by unfold f87 gz;rw[f75_eq,f117_eq,f117_eq];cases at1 t a.at_;rfl;cases decide (a.guard= -1);cases spot t.objs o a.guard 1;rfl;cases decide (a.kind=1);cases decide (a.kind=2)<;>cases decide (a.kind=3)<;>cases decide (a.entry=0)<;>rfl;rfl;cases decide (a.kind=1);cases decide (a.kind=2)<;>cases decide (a.kind=3)<;>cases decide (a.entry=0)<;>rfl;rfl
theorem f54_l2_eq(t:ah)(x:bU)(k:Int->Option Bool)(a b:Option Bool)(ha:∀i:Int,0<=i->k i=a)(hl:x.alts.length<9223372036854775808):∀(n i:Nat)(z:Int),z=(i:Int)->i<=x.alts.length->x.alts.length<n+i->
  f54_l2 ⟨t⟩ x k (λ_=>b) n z=bif (x.alts.drop i).all (gz t x.obj) then b else a
 |0,i,z,_,_,h=>oM
 |n+1,i,z,hz,hi,h=>by
  subst hz;rw[f54_l2];by_cases hh:i<x.alts.length;rw[aV hh,List.all_cons,dcT (by omega:(i:Int)<(x.alts.length:Int)),cdT,aE hh,bnS,aw,f87_eq,bnS];cases gz t x.obj x.alts[i];grind;dsimp only;rw[Bool.not_true,cdF,w64 oM oM,f54_l2_eq t x k a b ha hl n (i+1) _ (by push_cast;rfl) oM oM,Bool.true_and];grind
def jY(t:ah)(x:bU):Bool:= !((((decide ((x.alts.length:Int)<1)||decide ((x.alts.length:Int)>16))||decide (x.obj<0))||decide (x.obj>=(t.objs.length:Int)))||((!decide (x.else_= -1))&&(!(at1 t x.else_))))&&x.alts.all (gz t x.obj)
theorem f54_l1_eq(t:ah)(r:Option Bool)(hl:t.selects.length<9223372036854775808):∀(n i:Nat)(z:Int),z=(i:Int)->i<=t.selects.length->t.selects.length<n+i->
  f54_l1 ⟨t⟩ (λ_=>r) n z=bif (t.selects.drop i).all (jY t) then r else some false
 |0,i,z,_,_,h=>oM
 |n+1,i,z,hz,hi,h=>by
  subst hz;rw[f54_l1];by_cases hh:i<t.selects.length;rw[aV hh,List.all_cons,dcT (by omega:(i:Int)<(t.selects.length:Int)),cdT,aE hh,bnS,f75_eq];generalize t.selects[i]=x;unfold jY;cases hc:(((decide ((x.alts.length:Int)<1)||decide ((x.alts.length:Int)>16))||decide (x.obj<0))||decide (x.obj>=(t.objs.length:Int)))||((!decide (x.else_= -1))&&(!(at1 t x.else_)));have he:(x.alts.length:Int)<=16:=by simp_all
  simp only[aw];rw[cdF,f54_l2_eq t x _ (some false) _ (λi h=>by rw[dcT (show i>=0 from h)];rfl) oM _ 0 0 rfl (Nat.zero_le _) oM,List.drop_zero,w64 oM oM,f54_l1_eq t r hl n (i+1) _ (by push_cast;rfl) oM oM];cases x.alts.all (gz t x.obj)<;>rfl;rfl;grind
def lF(t:ah):Bool:= !(decide ((t.selects.length:Int)>1024))&&t.selects.all (jY t)
theorem f54_eq(t:ah):f54 ⟨t⟩=some (lF t):=by
 unfold f54 lF;dsimp only;cases h1:decide ((t.selects.length:Int)>1024);have hol:(t.selects.length:Int)<=1024:=by simp_all
 rw[cdF,aw,f54_l1_eq t _ oM _ 0 0 rfl (Nat.zero_le _) oM,List.drop_zero];grind;rfl
def kQ(h g:bi):Bool:= !((!(decide (g.from_>=h.from_)&&decide (g.to<=h.to)))&&decide ((if h.from_>g.from_ then h.from_ else g.from_)<(if h.to<g.to then h.to else g.to)))
theorem pR{α:Type}(L:List α)(i:Nat):bQ L 0 (i:Int)=L.take i:=by simp[bQ]
theorem f55_l2_eq(t:ah)(j:Nat)(h0:bi)(r:Option Bool)(hj:j<=t.handlers.length)(hl:t.handlers.length<9223372036854775808):∀(n i:Nat)(z:Int),z=(i:Int)->i<=j->j<n+i->
  f55_l2 ⟨t⟩ (j:Int) (λ_ _ _ _=>r) h0 n z=bif ((t.handlers.take j).drop i).all (kQ h0) then r else some false
 |0,i,z,_,_,h=>oM
 |n+1,i,z,hz,hi,h=>by
  subst hz;have hL:(t.handlers.take j).length=j:=by grind
  rw[f55_l2];rw[pR];by_cases hh:i<(t.handlers.take j).length;rw[aV hh,List.all_cons,dcT (by omega:(i:Int)<((t.handlers.take j).length:Int)),cdT,aE hh,bnS,w64 oM oM,f55_l2_eq t j h0 r hj hl n (i+1) _ (by push_cast;rfl) oM oM];generalize(t.handlers.take j)[i]=g;unfold kQ;cases (!(decide (g.from_>=h0.from_)&&decide (g.to<=h0.to)))&&decide ((if h0.from_>g.from_ then h0.from_ else g.from_)<(if h0.to<g.to then h0.to else g.to))<;>rfl;grind
def fH(t:ah)(x:bi):Bool:=((((decide (x.from_<0))||(decide (x.from_>=x.to)))||(decide (x.to>(t.insns.length:Int))))||(!(at1 t x.at_)))||(f88 x x.at_)
def gp(t:ah):List bi->List bi->Bool
 |_,[]=>true
 |P,x::r=>(!(fH t x))&&P.all (kQ x)&&gp t (P++ [x]) r
theorem f55_l1_eq(t:ah)(r:Option Bool)(hl:t.handlers.length<9223372036854775808):∀(n i:Nat)(z:Int),z=(i:Int)->i<=t.handlers.length->t.handlers.length<n+i->
  f55_l1 ⟨t⟩ (λ_=>r) n z=bif gp t (t.handlers.take i) (t.handlers.drop i) then r else some false
 |0,i,z,_,_,h=>oM
 |n+1,i,z,hz,hi,h=>by
  subst hz;rw[f55_l1];dsimp only;by_cases hh:i<t.handlers.length;have hL:(t.handlers.take i).length=i:=by rw[List.length_take];omega
  rw[aV hh,gp,<-List.take_succ_eq_append_getElem hh,dcT (by omega:(i:Int)<(t.handlers.length:Int)),cdT,aw,aE hh,bnS,f75_eq,bR _ (by simp[dR];omega),pR,w64 oM oM,f55_l2_eq t i _ _ oM hl _ 0 0 rfl (Nat.zero_le _) oM,f55_l1_eq t r hl n (i+1) _ (by push_cast;rfl) oM oM,List.drop_zero];grind [fH];rw[dcF (by omega:¬(i:Int)<(t.handlers.length:Int)),cdF,List.drop_eq_nil_of_le oM];rfl
def lR(t:ah):Bool:= !(decide ((t.handlers.length:Int)>4096))&&gp t [] t.handlers
theorem f55_eq(t:ah):f55 ⟨t⟩=some (lR t):=by
 unfold f55 lR;dsimp only;cases h1:decide ((t.handlers.length:Int)>4096);have hol:(t.handlers.length:Int)<=4096:=by simp_all
 rw[cdF,aw,f55_l1_eq t _ oM _ 0 0 rfl (Nat.zero_le _) oM,List.drop_zero,List.take_zero];grind;rfl
def rL(t:ah)(x:Loop):Bool:=(!((decide (x.head<0)||decide (x.head>x.back))||(!(at1 t x.back))))&&(match idx t.insns x.back with|some y=>f89 y x.head|none=>false)&& !(decide (x.bound<0)||decide (x.bound>2147483647))
def jj(t:ah):List (Int×Bool)->List Loop->Bool
 |_,[]=>true
 |m,x::r=>(!(inM m x.back))&&rL t x&&jj t (bP m x.back true) r
theorem f56_l1_eq(t:ah)(r:Option Bool)(hl:t.loops.length<9223372036854775808):∀(n i:Nat)(z:Int)(m:List (Int×Bool)),z=(i:Int)->i<=t.loops.length->t.loops.length<n+i->
  f56_l1 ⟨t⟩ (λ_=>r) n z m=bif jj t m (t.loops.drop i) then r else some false
 |0,i,z,m,_,_,h=>oM
 |n+1,i,z,m,hz,hi,h=>by
  subst hz;rw[f56_l1];by_cases hh:i<t.loops.length;rw[aV hh,jj,dcT (by omega:(i:Int)<(t.loops.length:Int)),cdT,aE hh,bnS,f75_eq,w64 oM oM,f56_l1_eq t r hl n (i+1) _ _ (by push_cast;rfl) oM oM];generalize t.loops[i]=x;unfold rL;show Option.bind (bif (_||inM m x.back) then _ else _) _=_;cases h1:(decide (x.head<0)||decide (x.head>x.back))||(!(at1 t x.back));cases inM m x.back;have h2:at1 t x.back=true:=by simp_all
  obtain⟨y,hy,_⟩:=aI (fx.1 h2);rw[hy];grind [f89];rfl;grind;rw[dcF (by omega:¬(i:Int)<(t.loops.length:Int)),cdF,List.drop_eq_nil_of_le oM];rfl
def rK(t:ah):Bool:= !(decide ((t.loops.length:Int)>4096))&&jj t [] t.loops
theorem f56_eq(t:ah):f56 ⟨t⟩=some (rK t):=by
 unfold f56 rK;dsimp only;cases h1:decide ((t.loops.length:Int)>4096);have hol:(t.loops.length:Int)<=4096:=by simp_all
 rw[cdF,aw,f56_l1_eq t _ oM _ 0 0 [] rfl (Nat.zero_le _) oM,List.drop_zero];grind;rfl
def chk(t:ah)(a:Int):Bool:=match idx t.insns a with
 |some x=>decide (x.op=27)||decide (x.op=28)
 |none=>false
theorem f43_eq(t:ah)(a:Int):f43 ⟨t⟩ a=some (chk t a):=by unfold f43 chk;rw[f75_eq];cases h:at1 t a;grind [dp,fx.2];obtain⟨y,hy,_⟩:=aI (fx.1 h);grind
def iL(t:ah):Int->List c4->Bool
 |_,[]=>true
 |last,x::r=>((decide (last<x.at_)&&chk t x.at_)&& !(decide (x.kind<1)||decide (x.kind>5)))&&iL t x.at_ r
theorem f57_l1_eq(t:ah)(r:Option Bool)(hl:t.checks.length<9223372036854775808):∀(n i:Nat)(z last:Int),z=(i:Int)->i<=t.checks.length->t.checks.length<n+i->
  f57_l1 ⟨t⟩ (λ_=>r) n last z=bif iL t last (t.checks.drop i) then r else some false
 |0,i,z,last,_,_,h=>oM
 |n+1,i,z,last,hz,hi,h=>by
  subst hz;rw[f57_l1];by_cases hh:i<t.checks.length;rw[aV hh,iL,dcT (by omega:(i:Int)<(t.checks.length:Int)),cdT,aE hh,bnS,f43_eq,w64 oM oM,f57_l1_eq t r hl n (i+1) _ _ (by push_cast;rfl) oM oM];generalize t.checks[i]=x;by_cases h1:last<x.at_;rw[dcT h1,dcF (show¬x.at_<=last by omega)];cases chk t x.at_<;>cases decide (x.kind<1)<;>cases decide (x.kind>5)<;>rfl;grind;rw[dcF (by omega:¬(i:Int)<(t.checks.length:Int)),cdF,List.drop_eq_nil_of_le oM];rfl
theorem f57_eq(t:ah)(hl:t.checks.length<9223372036854775808):f57 ⟨t⟩=some (iL t (-1) t.checks):=by unfold f57;dsimp only;rw[aw,f57_l1_eq t _ hl _ 0 0 (-1) rfl (Nat.zero_le _) oM,List.drop_zero];grind
def cG(os:List Obj)(ent:Int)(e:bj):Bool×Int×Int×Int×Int×Int:=
 bif decide (e.kind=1) then(true,0,0,e.n,0,0) else
 bif decide (e.kind=2) then(bif spot os e.o e.off 1&&(match idx os e.o with|some y=> !y.ptr|none=>false) then(true,0,0,0,e.o,e.off) else(false,0,0,0,0,0)) else
 bif decide (e.kind=14) then(decide (e.n>=0)&&decide (e.n<ent),0,0,e.n,0,0) else
 bif decide (e.kind=4) then(true,1,18,0,0,0) else
 bif decide (e.kind=5) then(true,2,(if(if 15<e.op then 15 else e.op)>7 then(if 15<e.op then 15 else e.op) else 7),0,0,0) else
 bif decide (e.kind=6)||decide (e.kind=7) then(true,2,0,0,0,0) else(false,0,0,0,0,0)
def ep(os:List Obj)(ent:Int)(e:bj):Bool:=
 ((((((((!(cG os ent e).1)||(!decide ((List.length e.l:Int)=(cG os ent e).2.1)))||(!decide (e.op=(cG os ent e).2.2.1)))||(!decide (e.n=(cG os ent e).2.2.2.1)))||(!decide (e.o=(cG os ent e).2.2.2.2.1)))||(!decide (e.off=(cG os ent e).2.2.2.2.2)))||(!decide (e.len=0)))||(!decide (e.lo=0)))||(!decide (e.hi=0))
def exL(rec:Int->bj->Bool×Int):List bj->Int->Bool×Int
 |[],l=>(true,l)
 |e::r,l=>bif (rec l e).1 then exL rec r (rec l e).2 else(false,(rec l e).2)
def exF(os:List Obj)(ent:Int):Nat->Int->Int->bj->Bool×Int
 |0,_,left,_=>(false,left)
 |n+1,deep,left,e=>
  bif (decide (i64.wrap (left - 1)<0)||decide (deep>64))||ep os ent e then(false,i64.wrap (left - 1))
  else exL (exF os ent n (deep+1)) e.l (i64.wrap (left - 1))
theorem rj(os:List Obj)(ent:Int)(e:bj):(cG os ent e).2.1<=2:=by unfold cG;cases decide (e.kind=1)<;>cases decide (e.kind=2)<;>cases decide (e.kind=14)<;>cases decide (e.kind=4)<;>cases decide (e.kind=5)<;>cases (decide (e.kind=6)||decide (e.kind=7))<;>simp<;>cases (spot os e.o e.off 1&&(match idx os e.o with|some y=> !y.ptr|none=>false))<;>simp
abbrev Rt:Type:=Bool×(List aG)×(List bi)×(List Loop)×(List bU)×(List (List Int))×(List Obj)×(List dO)×Int×(List bK)×(List fp)×(List c4)×Int×Int
abbrev Ret:Type:=(List aG)->(List bi)->(List Loop)->(List bU)->(List (List Int))->(List Obj)->(List dO)->Int->(List bK)->(List fp)->(List c4)->Int->Int->bj->Int->Option Rt
section
variable(v0:List aG)(v1:List bi)(v2:List Loop)(v3:List bU)(v4:List (List Int))(v5:List Obj)(v6:List dO)(v7:Int)(v8:List bK)(v9:List fp)(v10:List c4)(ent:Int)
def oU(z:Bool×Int):Option Rt:=some (z.1,v0,v1,v2,v3,v4,v5,v6,v7,v8,v9,v10,ent,z.2)
theorem f84s_l1_eq(rec:Ret)(g:Int->bj->Bool×Int)(e:bj)(deep:Int)
  (hrec:∀l x,rec v0 v1 v2 v3 v4 v5 v6 v7 v8 v9 v10 ent l x (i64.wrap (deep+1))=oU v0 v1 v2 v3 v4 v5 v6 v7 v8 v9 v10 ent (g l x))
  (ka:Int->(List aG)->(List bi)->(List Loop)->(List bU)->(List (List Int))->(List Obj)->(List dO)->Int->(List bK)->(List fp)->(List c4)->Int->Int->Option Rt)
  (kb:(List aG)->(List bi)->(List Loop)->(List bU)->(List (List Int))->(List Obj)->(List dO)->Int->(List bK)->(List fp)->(List c4)->Int->Int->Option Rt)
  (ha:∀(i:Int) l,0<=i->ka i v0 v1 v2 v3 v4 v5 v6 v7 v8 v9 v10 ent l=oU v0 v1 v2 v3 v4 v5 v6 v7 v8 v9 v10 ent (false,l))
  (hb:∀l,kb v0 v1 v2 v3 v4 v5 v6 v7 v8 v9 v10 ent l=oU v0 v1 v2 v3 v4 v5 v6 v7 v8 v9 v10 ent (true,l))
  (hl:e.l.length<9223372036854775808):∀(n i:Nat)(z l:Int),z=(i:Int)->i<=e.l.length->e.l.length<n+i->
  f84s_l1 rec e deep ka kb n z v0 v1 v2 v3 v4 v5 v6 v7 v8 v9 v10 ent l=oU v0 v1 v2 v3 v4 v5 v6 v7 v8 v9 v10 ent (exL g (e.l.drop i) l)
 |0,i,z,l,_,_,h=>oM
 |n+1,i,z,l,hz,hi,h=>by
  subst hz;rw[f84s_l1];by_cases hh:i<e.l.length;rw[aV hh,exL,dcT (by omega:(i:Int)<(e.l.length:Int)),cdT,aE hh,bnS,aw,hrec];unfold oU;dsimp only[bnS];cases (g l e.l[i]).1;exact ha _ _ oM;rw[Bool.not_true,cdF,w64 oM oM];exact f84s_l1_eq rec g e deep hrec ka kb ha hb hl n (i+1) _ _ (by push_cast;rfl) oM oM;rw[dcF (by omega:¬(i:Int)<(e.l.length:Int)),cdF,List.drop_eq_nil_of_le oM];exact hb _
theorem f84s_eq(rec:Ret)(g:Int->bj->Bool×Int)(e:bj)(deep left:Int)
  (hrec:deep<=64->∀l x,rec v0 v1 v2 v3 v4 v5 v6 v7 v8 v9 v10 ent l x (i64.wrap (deep+1))=oU v0 v1 v2 v3 v4 v5 v6 v7 v8 v9 v10 ent (g l x)):∀z,f84s rec v0 v1 v2 v3 v4 v5 v6 v7 v8 v9 v10 ent left e deep=z->
  z=oU v0 v1 v2 v3 v4 v5 v6 v7 v8 v9 v10 ent (bif (decide (i64.wrap (left - 1)<0)||decide (deep>64))||ep v5 ent e then(false,i64.wrap (left - 1)) else exL g e.l (i64.wrap (left - 1))):=by
 intro z h;unfold f84s at h;obtain⟨K,hK,h⟩:=aC h;have h':K (cG v5 ent e).1 (cG v5 ent e).2.1 (bj.mk e.kind (cG v5 ent e).2.2.1 (cG v5 ent e).2.2.2.1 (cG v5 ent e).2.2.2.2.1 (cG v5 ent e).2.2.2.2.2 0 0 0 []) (cG v5 ent e).2.2.1 (cG v5 ent e).2.2.2.1 (cG v5 ent e).2.2.2.2.1 (cG v5 ent e).2.2.2.2.2=z:=by rw[<-h,aw];unfold cG;cases decide (e.kind=1);cases decide (e.kind=2);cases decide (e.kind=14);cases decide (e.kind=4);cases decide (e.kind=5);cases decide (e.kind=6)<;>cases decide (e.kind=7)<;>rfl;rfl;rfl;cases decide (e.n>=0)<;>rfl;rw[f79_eq];dsimp only[bnS,cdT,cdF];cases hs:spot v5 e.o e.off 1;rfl;obtain⟨y,hy,_⟩:=eS hs;rw[hy];dsimp only[bnS,cdT,cdF];cases y.ptr<;>rfl;rfl
 clear h;rw[hK] at h';dsimp only at h';have hc:=rj v5 ent e;have e1:(((((((((((decide (i64.wrap (left - 1)<0))||(decide (deep>64)))||(!(cG v5 ent e).1))||(!decide ((List.length e.l:Int)=(cG v5 ent e).2.1)))||(!decide (e.op=(cG v5 ent e).2.2.1)))||(!decide (e.n=(cG v5 ent e).2.2.2.1)))||(!decide (e.o=(cG v5 ent e).2.2.2.2.1)))||(!decide (e.off=(cG v5 ent e).2.2.2.2.2)))||(!decide (e.len=0)))||(!decide (e.lo=0)))||(!decide (e.hi=0)))=((decide (i64.wrap (left - 1)<0)||decide (deep>64))||ep v5 ent e):=by unfold ep;simp only[Bool.or_assoc]
 rw[e1] at h';cases hbad:(decide (i64.wrap (left - 1)<0)||decide (deep>64))||ep v5 ent e;rw[hbad,cdF] at h';have hd:deep<=64:=by simp only[Bool.or_eq_false_iff,decide_eq_false_iff_not] at hbad;omega
 have hlen:e.l.length<=2:=by simp only[Bool.or_eq_false_iff] at hbad;have:=hbad.2;unfold ep at this;simp only[Bool.or_eq_false_iff,Bool.not_eq_false',decide_eq_true_eq] at this;have:=this.1.1.1.1.1.1.1.2;omega
 simp only[aw] at h';rw[f84s_l1_eq v0 v1 v2 v3 v4 v5 v6 v7 v8 v9 v10 ent rec g e deep (hrec hd) _ _ (λi l h0=>by rw[dcT (show i>=0 from h0)];rfl) (λl=>rfl) oM _ 0 0 _ rfl (Nat.zero_le _) oM,List.drop_zero] at h';rw[<-h',cdF];rw[hbad,cdT] at h';rw[<-h',cdT];rfl
theorem f84_eq:∀(n:Nat)(deep left:Int)(e:bj),1<=deep->deep<=65->66<n+deep->f84 n v0 v1 v2 v3 v4 v5 v6 v7 v8 v9 v10 ent left e deep=oU v0 v1 v2 v3 v4 v5 v6 v7 v8 v9 v10 ent (exF v5 ent n deep left e)
 |0,deep,left,e,h0,h1,h2=>oM
 |n+1,deep,left,e,h0,h1,h2=>by
  rw[f84,exF];exact f84s_eq v0 v1 v2 v3 v4 v5 v6 v7 v8 v9 v10 ent (f84 n) (exF v5 ent n (deep+1)) e deep left (λhd l x=>by
   rw[w64 oM oM];exact f84_eq n (deep+1) l x oM oM oM) _ rfl
end
def l4(t:ah)(ent:Int)(e:bj):Bool:=(exF t.objs ent 66 1 256 e).1
theorem f53_l2_eq(t:ah)(x:fp)(r:Option Bool)(hl:x.barriers.length<9223372036854775808):∀(n i:Nat)(z:Int),z=(i:Int)->i<=x.barriers.length->x.barriers.length<n+i->
  f53_l2 ⟨t⟩ (λ_ _=>r) x n z=bif (x.barriers.drop i).all (l4 t x.barriers.length) then r else some false
 |0,i,z,_,_,h=>oM
 |n+1,i,z,hz,hi,h=>by
  subst hz;rw[f53_l2];dsimp only;by_cases hh:i<x.barriers.length;rw[aV hh,List.all_cons,dcT (by omega:(i:Int)<(x.barriers.length:Int)),cdT,aE hh,bnS,f84_eq _ _ _ _ _ _ _ _ _ _ _ _ 66 1 256 _ oM oM oM,w64 oM oM,f53_l2_eq t x r hl n (i+1) _ (by push_cast;rfl) oM oM];unfold oU l4;dsimp only[bnS];cases (exF t.objs x.barriers.length 66 1 256 x.barriers[i]).1<;>rfl;rw[dcF (by omega:¬(i:Int)<(x.barriers.length:Int)),cdF,List.drop_eq_nil_of_le oM];rfl
def gM(t:ah)(x:fp):Bool:= !((decide (x.ceiling<0)||decide (x.ceiling>31))||decide ((x.barriers.length:Int)>8))&&x.barriers.all (l4 t x.barriers.length)
theorem f53_l1_eq(t:ah)(r:Option Bool)(hl:t.prots.length<9223372036854775808):∀(n i:Nat)(z:Int),z=(i:Int)->i<=t.prots.length->t.prots.length<n+i->
  f53_l1 ⟨t⟩ (λ_=>r) n z=bif (t.prots.drop i).all (gM t) then r else some false
 |0,i,z,_,_,h=>oM
 |n+1,i,z,hz,hi,h=>by
  subst hz;rw[f53_l1];dsimp only;by_cases hh:i<t.prots.length;rw[aV hh,List.all_cons,dcT (by omega:(i:Int)<(t.prots.length:Int)),cdT,aw,aE hh,bnS];generalize t.prots[i]=x;unfold gM;cases hc:(decide (x.ceiling<0)||decide (x.ceiling>31))||decide ((x.barriers.length:Int)>8);have he:(x.barriers.length:Int)<=8:=by simp only[Bool.or_eq_false_iff,decide_eq_false_iff_not] at hc;omega
  rw[cdF,f53_l2_eq t x _ oM _ 0 0 rfl (Nat.zero_le _) oM,w64 oM oM,f53_l1_eq t r hl n (i+1) _ (by push_cast;rfl) oM oM,List.drop_zero];cases x.barriers.all (l4 t x.barriers.length)<;>rfl;rfl;rw[dcF (by omega:¬(i:Int)<(t.prots.length:Int)),cdF,List.drop_eq_nil_of_le oM];rfl
def ir(t:ah):Bool:=t.prots.all (gM t)&&decide ((t.prots.length:Int)<=32)
theorem f53_eq(t:ah)(hl:t.prots.length<9223372036854775808):f53 ⟨t⟩=some (ir t):=by unfold f53 ir;dsimp only;rw[aw,f53_l1_eq t _ hl _ 0 0 rfl (Nat.zero_le _) oM,List.drop_zero];cases t.prots.all (gM t)<;>rfl
def prs(o:Int):Option (List ByteArray):=(f118 o).bind λr=>f147 r.1.fields
def ch(s:ByteArray):Int×Int:=((ge s 0).getD 0,(ge s 1).getD 0)
def kj(o:Int):List (Int×Int):=((prs o).getD []).map ch
theorem yq:∀k,k<57->(match prs ((k:Nat)+1:Int) with|some l=>Nat.blt l.length 100&&l.all λs=>(ge s 0).isSome&&(ge s 1).isSome|none=>false)=true:=by decide+kernel
theorem f118_ok:∀k,k<57->(match f118 ((k:Nat)+1:Int) with|some r=>r.2|none=>false)=true:=by decide+kernel
theorem f118_eq{o:Int}(h1:1<=o)(h2:o<=57):∃r,f118 o=some (r,true):=by obtain⟨k,rfl⟩:∃k:Nat,o=(k:Int)+1:=⟨(o - 1).toNat,oM⟩;have:=f118_ok k oM;grind
theorem yr{o:Int}(h1:1<=o)(h2:o<=57):∃l,prs o=some l/\l.length<100/\∀s∈l,(∃c,ge s 0=some c)/\∃c,ge s 1=some c:=by
 obtain⟨k,rfl⟩:∃k:Nat,o=(k:Int)+1:=⟨(o - 1).toNat,oM⟩;have:=yq k oM;cases h:prs ((k:Int)+1) with
 |none=>grind
 |some l=>rw[h] at this;rw[Bool.and_eq_true] at this;refine⟨l,rfl,by simpa using this.1,λs hs=>?_⟩;have:=List.all_eq_true.1 this.2 s hs;rw[Bool.and_eq_true] at this;exact⟨Option.isSome_iff_exists.1 this.1,Option.isSome_iff_exists.1 this.2⟩
def rng(w v:Int):Bool:= !(decide (v<(f150 w).1)||decide (v>(f150 w).2))
def fl:List (Int×Int)->Int->Int->Int->Int->Int->Int->Bool
 |[],d,a,b,n,m,to=>(decide (d=0))&&((decide (a=0))&&((decide (b=0))&&((decide (n=0))&&((decide (m=0))&&((decide (to=0))&&true)))))
 |(c,w)::r,d,a,b,n,m,to=>
  bif decide (c=68) then rng w d&&fl r 0 a b n m to else
  bif decide (c=65) then rng w a&&fl r d 0 b n m to else
  bif decide (c=66) then rng w b&&fl r d a 0 n m to else
  bif decide (c=78) then rng w n&&fl r d a b 0 m to else
  bif decide (c=77) then rng w m&&fl r d a b n 0 to else rng w to&&fl r d a b n m 0
theorem f91_l1_eq(k1 k2 k3 k4 k5 k6:Int->Int->Int->Int->Int->Int->ByteArray->ByteArray->Int->Int->Int->Int->Option Bool)
  (h1:∀a b c d e f g h i j k l,k1 a b c d e f g h i j k l=some false)(h2:∀a b c d e f g h i j k l,k2 a b c d e f g h i j k l=some false)(h3:∀a b c d e f g h i j k l,k3 a b c d e f g h i j k l=some false)
  (h4:∀a b c d e f g h i j k l,k4 a b c d e f g h i j k l=some false)(h5:∀a b c d e f g h i j k l,k5 a b c d e f g h i j k l=some false)(h6:∀a b c d e f g h i j k l,k6 a b c d e f g h i j k l=some false)
  (k7:Int->Int->Int->Int->Int->Int->ByteArray->ByteArray->Option Bool)(h7:∀d a b n m to x y,k7 d a b n m to x y=some (fl [] d a b n m to))(r:iM×Bool)(L:List ByteArray)(hL:∀s∈L,(∃c,ge s 0=some c)/\∃c,ge s 1=some c)(hl:L.length<9223372036854775808):
  ∀(n i:Nat)(z d a b vn m to:Int),z=(i:Int)->i<=L.length->L.length<n+i->f91_l1 k1 k2 k3 k4 k5 k6 k7 r L n z d a b vn m to=some (fl ((L.drop i).map ch) d a b vn m to)
 |0,i,z,_,_,_,_,_,_,_,_,h=>oM
 |n+1,i,z,d,a,b,vn,m,to,hz,hi,h=>by
  subst hz;rw[f91_l1];by_cases hh:i<L.length;obtain⟨⟨c,hc⟩,w,hw⟩:=hL _ (List.getElem_mem hh);have ih:=λd a b vn m to=>f91_l1_eq k1 k2 k3 k4 k5 k6 h1 h2 h3 h4 h5 h6 k7 h7 r L hL hl n (i+1) _ d a b vn m to (by push_cast;rfl) oM oM;have he:ch L[i]=(c,w):=by grind [ch]
  rw[aV hh,List.map_cons,he,fl,dcT (by omega:(i:Int)<(L.length:Int)),cdT,aE hh,bnS,hc,bnS,w64 oM oM];simp only[aw,hw,bnS,h1,h2,h3,h4,h5,h6,ih];unfold rng;cases decide (c=68);cases decide (c=65);cases decide (c=66);grind;grind;grind;grind;grind
def gy(x:aG):Bool:= !((!(decide (1<=x.op)&&decide (x.op<=57)))||(decide (x.op=27)&&decide (x.n>x.m)))&&(!((decide (x.op=37)&&decide ((IntKind.u8.wrap x.n)=6))&&(!decide (x.m=0)))&&fl (kj x.op) x.d x.a x.b x.n x.m x.to)
theorem f91_eq(x:aG)(ho:0<=x.op/\x.op<=255):f91 x=some (gy x):=by
 unfold f91 gy;by_cases h:1<=x.op/\x.op<=57;obtain⟨r,hr⟩:=f118_eq h.1 h.2;obtain⟨l,hl,hlen,hg⟩:=yr h.1 h.2;have hf:f147 r.fields=some l:=by grind [prs]
 rw[hr,bnS,dcT h.1,dcT h.2];rw[Bool.not_true,Bool.false_or,Bool.and_true,Bool.not_true,Bool.false_or];cases decide (x.op=27)&&decide (x.n>x.m);rw[cdF];cases (decide (x.op=37)&&decide ((IntKind.u8.wrap x.n)=6))&&(!decide (x.m=0));rw[cdF];simp only[aw];rw[bnS,hf,bnS];refine(f91_l1_eq _ _ _ _ _ _ (λ_ _ _ _ _ _ _ _ _ _ _ _=>rfl) (λ_ _ _ _ _ _ _ _ _ _ _ _=>rfl) (λ_ _ _ _ _ _ _ _ _ _ _ _=>rfl) (λ_ _ _ _ _ _ _ _ _ _ _ _=>rfl) (λ_ _ _ _ _ _ _ _ _ _ _ _=>rfl) (λ_ _ _ _ _ _ _ _ _ _ _ _=>rfl) _ (by intro d a b n m to _ _;rfl) _ l hg oM _ 0 0 _ _ _ _ _ _ rfl (Nat.zero_le _) oM).trans ?_;grind [kj];rfl;rfl;have e:f118 x.op=some ((iM.mk ByteArray.empty ByteArray.empty),false):=by grind [f118,w64]
 grind
def mQ(t:ah)(task n:Int):Int×Bool:=match idx t.tasks task with
 |some x=>(match idx x.entries n with
  |some e=>((i64.wrap ((i64.wrap ((List.length e.ins:Int)+(List.length e.outs:Int)))+1)),true)
  |none=>(0,false))
 |none=>(0,false)
theorem f93_eq(t:ah)(a n:Int):f93 ⟨t⟩ a n=some (mQ t a n):=by unfold f93 mQ;by_cases h:0<=a/\a<t.tasks.length;obtain⟨y,hy,_⟩:=aI h;rw[hy,dcF (show¬a<0 by omega),dcF (show¬a>=(t.tasks.length:Int) by omega)];dsimp only[bnS];by_cases h2:0<=n/\n<y.entries.length;obtain⟨e,he,_⟩:=aI h2;grind;grind [dp];grind [dp]
def t8(t:ah)(p n:Int):Bool:=match idx t.prots p with
 |some x=>decide (0<=n)&&decide (n<(x.barriers.length:Int))
 |none=>false
theorem f94_eq(t:ah)(p n:Int):f94 ⟨t⟩ p n=some (t8 t p n):=by unfold f94 t8;by_cases h:0<=p/\p<t.prots.length;obtain⟨y,hy,_⟩:=aI h;grind;grind [dp]
def jtOk(t:ah)(x:aG):Bool:=decide ((i64.wrap (x.to+x.m))<=(t.insns.length:Int))&&(bQ t.insns x.to (i64.wrap (x.to+x.m))).all (λy=>decide (y.op=29))
def fR(t:ah)(x:aG):Bool:=gy x&&
 bif decide (x.op=3)||decide (x.op=4) then spot t.objs x.n x.m 1 else
 bif decide (x.op=5)||decide (x.op=6) then spot t.objs x.n x.m x.b else
 bif decide (x.op=29)||(decide (x.op=30)||decide (x.op=31)) then at1 t x.to else
 bif decide (x.op=32) then jtOk t x else
 bif decide (x.op=33) then decide (x.n<=t.excs) else
 bif decide (x.op=44)||(decide (x.op=45)||(decide (x.op=46)||decide (x.op=56))) then decide (x.n<(t.lists.length:Int)) else
 bif decide (x.op=50) then decide (x.n<(t.selects.length:Int)) else
 bif decide (x.op=49) then(mQ t x.a x.b).2&&spot t.objs x.n 0 (mQ t x.a x.b).1 else
 bif decide (x.op=52) then(mQ t x.a x.b).2&&decide (x.to<(t.insns.length:Int)) else
 bif decide (x.op=53)||decide (x.op=55) then decide (x.n<(t.prots.length:Int)) else
 bif decide (x.op=54) then t8 t x.n x.m else
 bif decide (x.op=43) then decide (x.m<0)||t8 t x.m x.n else true
theorem yF:kj 32=[(65,114),(78,118),(77,108),(84,115)]:=by decide+kernel
theorem o8{x:aG}(h:gy x=true)(ho:x.op=32):0<=x.to/\x.to<=65535/\1<=x.m/\x.m<=65536:=by grind [gy,yF,fl,rng,f150]
theorem xi(L:List aG)(hl:L.length<9223372036854775808):f58 L (λz0=>some (f92 z0))=some (!(L.all λy=>decide (y.op=29))):=by
 rw[f58_eq L _ f92 hl λ_ _=>rfl];congr 1;induction L with
 |nil=>rfl
 |cons x L ih=>rw[List.any_cons,List.all_cons,ih (by simp at hl;omega),Bool.not_and];rfl
theorem f60_eq(t:ah)(x:aG)(ho:0<=x.op/\x.op<=255)(hl:t.insns.length<=65536):f60 ⟨t⟩ x=some (fR t x):=by unfold f60 fR;rw[f91_eq x ho,bnS];cases hm:gy x;rfl;simp only[aw,f79_eq,f75_eq,f93_eq,f94_eq,bnS];rw[Bool.not_true,cdF,Bool.true_and];cases decide (x.op=3);cases decide (x.op=4);cases decide (x.op=5);cases decide (x.op=6);cases decide (x.op=29);cases decide (x.op=30);cases decide (x.op=31);cases h32:decide (x.op=32);cases decide (x.op=33);cases decide (x.op=44);cases decide (x.op=45);cases decide (x.op=46);cases decide (x.op=56);cases decide (x.op=50);grind;rfl;rfl;rfl;rfl;rfl;rfl;obtain⟨a1,a2,a3,a4⟩:=o8 hm (of_decide_eq_true h32);unfold jtOk;dsimp only[cdT,cdF,Bool.or_false];by_cases h4:(i64.wrap (x.to+x.m))<=(t.insns.length:Int);rw[dcT h4,cdT];grind [w64,bR,dR,xi,bQ];rw[dcF h4];rfl;rfl;rfl;rfl;rfl;rfl;rfl;rfl
structure Sz(t:ah):Prop where
 ops:∀x∈t.insns,0<=x.op/\x.op<=255
 inits:t.inits.length<9223372036854775808
 sets:∀o∈t.objs,o.set_.length<9223372036854775808
 lists:∀l∈t.lists,l.length<9223372036854775808
 prots:t.prots.length<9223372036854775808
 checks:t.checks.length<9223372036854775808
theorem f23_l1_eq(t:ah)(k:Int->Option Bool)(a b:Option Bool)(ha:∀i:Int,0<=i->k i=a)(ho:∀x∈t.insns,0<=x.op/\x.op<=255)(hl:t.insns.length<=65536):∀(n i:Nat)(z:Int),z=(i:Int)->i<=t.insns.length->t.insns.length<n+i->
  f23_l1 t k (λ_=>b) n z=bif (t.insns.drop i).all (fR t) then b else a
 |0,i,z,_,_,h=>oM
 |n+1,i,z,hz,hi,h=>by
  subst hz;rw[f23_l1];by_cases hh:i<t.insns.length;rw[aV hh,List.all_cons,dcT (by omega:(i:Int)<(t.insns.length:Int)),cdT,aE hh,bnS,aw,f60_eq t _ (ho _ (List.getElem_mem hh)) hl,bnS];cases fR t t.insns[i];exact ha _ oM;dsimp only;rw[Bool.not_true,cdF,w64 oM oM,f23_l1_eq t k a b ha ho hl n (i+1) _ (by push_cast;rfl) oM oM,Bool.true_and];rw[dcF (by omega:¬(i:Int)<(t.insns.length:Int)),cdF,List.drop_eq_nil_of_le oM];rfl
def o4(x:aG):Bool:=decide (x.op=29)||(decide (x.op=33)||(decide (x.op=34)||decide (x.op=57)))
def sO(t:ah):Bool:=match idx t.insns ((t.insns.length:Int) - 1) with
 |some x=>o4 x
 |none=>false
def MayB(t:ah):Bool:= !(decide ((t.insns.length:Int)<1)||decide ((t.insns.length:Int)>65536))&&(sO t&&(iy t&&(dX t&&(jG t&&(ir t&&(lF t&&(lR t&&(rK t&&(iL t (-1) t.checks&&t.insns.all (fR t))))))))))
theorem f23_eq(t:ah)(h:Sz t):f23 t=some (MayB t):=by
 unfold f23 MayB;cases h1:decide ((t.insns.length:Int)<1)||decide ((t.insns.length:Int)>65536);have hol:(1:Int)<=t.insns.length/\(t.insns.length:Int)<=65536:=by simp only[Bool.or_eq_false_iff,decide_eq_false_iff_not] at h1;omega
 obtain⟨x,hx,_⟩:=aI (L:=t.insns) (i:=(t.insns.length:Int) - 1) oM;unfold sO;rw[cdF,w64 oM oM,hx,bnS];simp only[aw];rw[f50_eq t h.inits h.sets,f51_eq,f52_eq t h.lists,f53_eq t h.prots,f54_eq,f55_eq,f56_eq,f57_eq t h.checks];rw[f23_l1_eq t _ (some false) _ (λi h0=>by rw[dcT (show i>=0 from h0)];rfl) h.ops oM _ 0 0 rfl (Nat.zero_le _) oM,List.drop_zero];unfold o4;generalize iy t=b1,dX t=b2,jG t=b3,ir t=b4,lF t=b5,lR t=b6,rK t=b7,iL t (-1) t.checks=b8,t.insns.all (fR t)=b9;have key:∀b:Bool,(bif b then(some b1).bind λr69=>bif !r69 then some false else(some b2).bind λr70=>bif !r70 then some false else(some b3).bind λr71=>bif !r71 then some false else(some b4).bind λr72=>bif !r72 then some false else(some b5).bind λr73=>bif !r73 then some false else(some b6).bind λr74=>bif !r74 then some false else(some b7).bind λr75=>bif !r75 then some false else(some b8).bind λr76=>bif !r76 then some false else bif b9 then some (!decide ((-1:Int)>=0)) else some false else some false)=some (b&&(b1&&(b2&&(b3&&(b4&&(b5&&(b6&&(b7&&(b8&&b9))))))))):=by intro b;cases b;rfl;cases b1;rfl;cases b2;rfl;cases b3;rfl;cases b4;rfl;cases b5;rfl;cases b6;rfl;cases b7;rfl;cases b8;rfl;cases b9<;>rfl
 cases decide (x.op=29);cases decide (x.op=33);cases decide (x.op=34);exact key _;exact key true;exact key true;exact key true;rfl
theorem mg{α:Type}{b:Nat}{L M:List α}(hb:b<=64)(h:L.length+M.length<=2000000000000):de b L M=true:=by
 unfold de;have:maxLen=9223372036854775807:=by decide
 rw[this,dcT oM,Bool.true_and];refine dcT ?_;have:(L.length+M.length)*b<=2000000000000*64:=Nat.mul_le_mul h hb;omega
theorem u9{b:Nat}{n:Int}(hb:b<=64)(h0:0<=n)(h:n<=2000000000000):nC b n=true:=by
 unfold nC;have:maxLen=9223372036854775807:=by decide
 rw[this,dcT h0,dcT (show n<=((9223372036854775807:Nat):Int) by omega),Bool.true_and,Bool.and_true];refine dcT ?_;have:(b:Int)*n<=64*2000000000000:=Int.mul_le_mul oM h h0 oM;omega
structure VT(t:ah):Prop where
 sz:Sz t
 n:1<=t.insns.length/\t.insns.length<=65536
 objs:t.objs.length<=4096
 excs:4<=t.excs/\t.excs<=64
 obj:∀o∈t.objs,eI t.objs o=true
 inits:dT t.objs [] t.inits=true
 hdls:t.handlers.length<=4096
 fits:∀x∈t.insns,fR t x=true
 last:sO t=true
 hok:gp t [] t.handlers=true
theorem MayB.vt{t:ah}(hs:Sz t)(h:MayB t=true):VT t:=by unfold MayB iy lR at h;simp only[Bool.and_eq_true,Bool.not_eq_true',Bool.or_eq_false_iff,decide_eq_false_iff_not,List.all_eq_true] at h;exact⟨hs,oM,oM,oM,h.2.2.1.2.1,h.2.2.1.2.2.1,oM,h.2.2.2.2.2.2.2.2.2.2,h.2.1,h.2.2.2.2.2.2.2.1.2⟩
theorem nN{os:List Obj}:∀(L:List Int)(last:Int),gt os last L=true->-1<=last->last<os.length->(L.length:Int)+last+1<=os.length
 |[],last,_,h1,h2=>by simp;omega
 |x::r,last,h,h1,h2=>by
  simp only[gt,Bool.and_eq_true,decide_eq_true_eq] at h;have hx:x<os.length:=by grind [aim,idx]
  have:=nN r x h.2 oM hx;simp;omega
theorem wS{os:List Obj}{o:Obj}(h:eI os o=true)(hn:0<os.length):1<=o.size/\o.size<=16384/\o.lo<=o.hi/\(o.set_.length:Int)<=os.length:=by unfold eI at h;simp only[Bool.and_eq_true,Bool.not_eq_true',Bool.or_eq_false_iff,decide_eq_false_iff_not] at h;refine⟨oM,oM,oM,?_⟩;cases hp:o.ptr;simp_all;have h2:=h.2;rw[hp] at h2;simp only[Bool.not_true,cdF,Bool.and_eq_true] at h2;have:=nN _ _ h2.1 oM oM;omega
theorem VT.o{t:ah}(h:VT t){o:Obj}(ho:o∈t.objs):1<=o.size/\o.size<=16384/\o.lo<=o.hi/\(o.set_.length:Int)<=4096:=by have h2:=h.objs;have:=wS (h.obj o ho) (List.length_pos_of_mem ho);omega
theorem iD{os:List Obj}:∀(L:List dO)(m:List ((Int×Int)×Bool)),dT os m L=true->∀x∈L,dA os x=true
 |[],_,_,x,hx=>by cases hx
 |y::r,m,h,x,hx=>by
  simp only[dT,Bool.and_eq_true] at h;rcases List.mem_cons.1 hx with e|e
  rw[e];exact h.1.2;exact iD r _ h.2 x e
def wY(o:Obj):Int:=bif fits o 0 then 0 else o.lo
def d3(o:Obj):List Int:=List.replicate o.size.toNat (wY o)
theorem f67_l2_eq(j:Nat)(k:List (List Int)->Option (List (List Int)))(o:Obj)(x:List Int)(hl:x.length<9223372036854775808):∀(n i:Nat)(z:Int)(S:List (List Int)),z=(i:Int)->i<=x.length->x.length<n+i->j<S.length->
  S[j]? =some (List.replicate i o.lo++List.replicate (x.length - i) 0)->f67_l2 (j:Int) k o x n z S=k (S.set j (List.replicate x.length o.lo))
 |0,i,z,S,_,_,h,_,_=>oM
 |n+1,i,z,S,hz,hi,h,hj,hS=>by
  subst hz;rw[f67_l2];have hget:S[j]=List.replicate i o.lo++List.replicate (x.length - i) 0:=by grind
  by_cases hh:i<x.length;rw[dcT (by omega:(i:Int)<(x.length:Int)),cdT,aE hj,bnS,hget];rw[aE (show i<(List.replicate i o.lo++List.replicate (x.length - i) (0:Int)).length by simp;omega),bnS,w64 oM oM];simp only[Int.toNat_natCast];rw[f67_l2_eq j k o x hl n (i+1) _ _ (by push_cast;rfl) oM oM (by simpa using hj)];rw[List.set_set];rw[List.getElem?_set_self hj];congr 1;rw[List.set_append_right _ _ sM,List.length_replicate,Nat.sub_self];obtain⟨q,hq⟩:∃q,x.length - i=q+1:=⟨x.length - i - 1,oM⟩;grind [List.replicate_succ'];rw[dcF (by omega:¬(i:Int)<(x.length:Int)),cdF];have:i=x.length:=oM;subst this;grind [List.set_getElem_self]
theorem f67_l1_eq(t:ah)(hv:VT t)(k:List (List Int)->Option (List (List Int))):∀(n i:Nat)(z:Int),z=(i:Int)->i<=t.objs.length->t.objs.length<n+i->
  f67_l1 t k n z ((t.objs.take i).map d3++List.replicate (t.objs.length - i) [])=k (t.objs.map d3)
 |0,i,z,_,_,h=>oM
 |n+1,i,z,hz,hi,h=>by
  subst hz;have ho:=hv.objs;rw[f67_l1];by_cases hh:i<t.objs.length;rw[dcT (by omega:(i:Int)<(t.objs.length:Int)),cdT];simp only[aw];rw[aE hh,bnS];have hm:=hv.o (List.getElem_mem hh);have hL:((t.objs.take i).map d3++List.replicate (t.objs.length - i) ([]:List Int)).length=t.objs.length:=by simp;omega
  have hstep:∀v,v=d3 t.objs[i]->(((t.objs.take i).map d3++List.replicate (t.objs.length - i) ([]:List Int)).set i v)=(t.objs.take (i+1)).map d3++List.replicate (t.objs.length - (i+1)) []:=λv hv=>by
   rw[List.set_append_right _ _ (by simp;omega)];have e:i - ((t.objs.take i).map d3).length=0:=by simp;omega
   obtain⟨q,hq⟩:∃q,t.objs.length - i=q+1:=⟨t.objs.length - i - 1,oM⟩;grind [List.take_succ_eq_append_getElem]
  rw[bR _ (u9 oM oM oM),aE oM,bnS,f80_eq _ _ (hv.sz.sets _ (List.getElem_mem hh)),bnS,w64 oM oM];simp only[Int.toNat_natCast];generalize hS:(t.objs.take i).map d3++List.replicate (t.objs.length - i) ([]:List Int)=S at*
  cases hf:fits t.objs[i] 0;rw[Bool.not_false,cdT,aE (show i<(S.set i (List.replicate t.objs[i].size.toNat (0:Int))).length by simp;omega),bnS];rw[List.getElem_set_self];rw[f67_l2_eq i _ _ _ (by simp;omega) _ 0 0 _ rfl (Nat.zero_le _) oM (by simp;omega) (by rw[List.getElem?_set_self oM];simp),List.set_set,List.length_replicate];rw[hstep _ (by unfold d3 wY;rw[hf];rfl)];exact f67_l1_eq t hv k n (i+1) _ (by push_cast;rfl) oM oM;rw[Bool.not_true,cdF,hstep _ (by unfold d3 wY;rw[hf];rfl)];exact f67_l1_eq t hv k n (i+1) _ (by push_cast;rfl) oM oM;rw[dcF (by omega:¬(i:Int)<(t.objs.length:Int)),cdF];have:i=t.objs.length:=oM;subst this;grind
def qc(S:List (List Int))(x:dO):List (List Int):=S.set x.o.toNat (((S[x.o.toNat]?).getD []).set x.slot.toNat x.v)
def Shape(os:List Obj)(S:List (List Int)):Prop:=S.map (λr=>(r.length:Int))=os.map (·.size)
theorem Shape.len{os:List Obj}{S:List (List Int)}(h:Shape os S):S.length=os.length:=by have:=congrArg List.length h;simpa using this
theorem Shape.at{os:List Obj}{S:List (List Int)}(h:Shape os S){i:Nat}{o:Obj}(ho:os[i]? =some o):∃r,S[i]? =some r/\(r.length:Int)=o.size:=by have h2:=congrArg (λL=>L[i]?) h;simp_all
theorem Shape.set{os:List Obj}{S:List (List Int)}(h:Shape os S)(i j:Nat)(v:Int):Shape os (S.set i (((S[i]?).getD []).set j v)):=by
 unfold Shape at*
 rw[<-h,List.map_set];refine List.ext_getElem? λk=>?_;grind
theorem f67_l3_eq(t:ah)(hv:VT t)(k:List (List Int)->Option (List (List Int))):∀(n i:Nat)(z:Int)(S:List (List Int)),z=(i:Int)->i<=t.inits.length->t.inits.length<n+i->Shape t.objs S->
  f67_l3 t k n z S=k ((t.inits.drop i).foldl qc S)
 |0,i,z,S,_,_,h,_=>oM
 |n+1,i,z,S,hz,hi,h,hS=>by
  subst hz;have hl:=hv.sz.inits;rw[f67_l3];by_cases hh:i<t.inits.length;have hx:=iD _ _ hv.inits _ (List.getElem_mem hh);rw[aV hh,List.foldl_cons,dcT (by omega:(i:Int)<(t.inits.length:Int)),cdT,aE hh,bnS];generalize t.inits[i]=x at hx;unfold dA at hx;rw[Bool.and_eq_true] at hx;obtain⟨o,ho,h0,h1⟩:=eS hx.1;have hob:=hv.o (cO ho);obtain⟨r,hr,hrl⟩:=hS.at (bg ho);have e:idx S x.o=some r:=by grind [idx]
  rw[w64 oM oM] at h1;obtain⟨v,hv',_⟩:=aI (L:=r) (i:=x.slot) oM;rw[e,bnS,hv',bnS,w64 oM oM];have e2:qc S x=S.set x.o.toNat (r.set x.slot.toNat x.v):=by grind [qc]
  rw[<-e2];exact f67_l3_eq t hv k n (i+1) _ _ (by push_cast;rfl) oM oM (hS.set _ _ _);grind
def store(t:ah):List (List Int):=t.inits.foldl qc (t.objs.map d3)
theorem nL{t:ah}(hv:VT t):Shape t.objs (t.objs.map d3):=by unfold Shape;rw[List.map_map];refine List.map_congr_left λo ho=>?_;have:=hv.o ho;simp[d3];omega
theorem mr{os:List Obj}:∀(L:List dO)(S:List (List Int)),Shape os S->Shape os (L.foldl qc S)
 |[],_,h=>h
 |_x::r,_,h=>mr r _ (h.set _ _ _)
theorem lE{t:ah}(hv:VT t):Shape t.objs (store t):=mr _ _ (nL hv)
theorem f67_eq(t:ah)(hs:Sz t)(h:MayB t=true):f67 t=some (store t):=by have hv:=MayB.vt hs h;have ho:=hv.objs;unfold f67;rw[f23_eq t hs,h,bnS,Bool.not_true,cdF,bR _ (u9 oM oM oM)];simp only[aw];have e:=f67_l1_eq t hv (λl74=>f67_l3 t (λl105=>some l105) (Int.toNat ((List.length t.inits:Int) - 0)+1) 0 l74) (Int.toNat ((List.length t.objs:Int) - 0)+1) 0 0 rfl (Nat.zero_le _) oM;rw[List.take_zero,List.map_nil,List.nil_append,Nat.sub_zero] at e;rw[Int.toNat_natCast,e,f67_l3_eq t hv _ _ 0 0 _ rfl (Nat.zero_le _) oM (nL hv),List.drop_zero];rfl
theorem f27_l1_eq(o:Obj)(v:Int)(r:Option Bool)(hl:o.set_.length<9223372036854775808):∀(n i:Nat)(z:Int),z=(i:Int)->i<=o.set_.length->o.set_.length<n+i->
  f27_l1 o v (λ_=>r) n z=bif (o.set_.drop i).any (λx=>f110 x v) then some true else r
 |0,i,z,_,_,h=>oM
 |n+1,i,z,hz,hi,h=>by
  subst hz;rw[f27_l1];by_cases hh:i<o.set_.length;rw[aV hh,List.any_cons,dcT (by omega:(i:Int)<(o.set_.length:Int)),cdT,aE hh,bnS,w64 (x:=(i:Int)+1) oM oM,f27_l1_eq o v r hl n (i+1) _ (by push_cast;rfl) oM oM];have e:f110 o.set_[i] v=decide (v=i64.wrap (o.set_[i]+1)):=by unfold f110;by_cases hv:v=i64.wrap (o.set_[i]+1);rw[dcT hv,dcT hv.symm];rw[dcF hv,dcF λh=>hv h.symm]
  rw[e];cases decide (v=i64.wrap (o.set_[i]+1))<;>rfl;rw[dcF (by omega:¬(i:Int)<(o.set_.length:Int)),cdF,List.drop_eq_nil_of_le oM];rfl
theorem f27_eq(o:Obj)(v:Int)(hl:o.set_.length<9223372036854775808):f27 o v=some (fits o v):=by unfold f27 fits;cases o.ptr;rfl;rw[Bool.not_true,cdF,cdT,aw,f27_l1_eq o v _ hl _ 0 0 rfl (Nat.zero_le _) oM,List.drop_zero];cases o.set_.any (λn=>f110 n v)<;>cases decide (v=0)<;>rfl
def rt(os:List Obj)(L:List Int):Nat->List Int->Bool
 |_,[]=>true
 |i,x::r=>(decide (0<=x)&&aim os x&&(bif Nat.beq i 0 then true else decide ((L[i - 1]?).getD 0<x)))&&rt os L (i+1) r
theorem wi{os:List Obj}{x:Int}:aim os x=true->0<=x/\x<os.length:=λh=>by
 unfold aim at h;cases hx:idx os x with
 |none=>rw[hx] at h;cases h
 |some y=>exact db hx
theorem wG(os:List Obj)(L:List Int):∀(i:Nat),i<=L.length->rt os L i (L.drop i)=gt os (if i=0 then -1 else(L[i - 1]?).getD 0) (L.drop i)\/∃j,j<i/\(L[j]?).getD 0<0:=by
 intro i hi;generalize hk:L.length - i=k;induction k generalizing i with
 |zero=>left;rw[List.drop_eq_nil_of_le oM];rfl
 |succ k ih=>
  have hh:i<L.length:=oM;rw[aV hh];have hg:(L[i]?).getD 0=L[i]:=by rw[geG hh];rfl
  rcases ih (i+1) oM oM with h|⟨j,hj,hn⟩
  left;rw[if_neg oM,Nat.add_sub_cancel,hg] at h;unfold rt gt;rw[h];by_cases h0:i=0;subst h0;rw[if_pos rfl];show((decide ((0:Int)<=L[0])&&aim os L[0]&&true)&&_)=_;by_cases hx:(0:Int)<=L[0];rw[dcT hx,dcT (show(-1:Int)<L[0] by omega),Bool.and_true];rw[dcF hx,dcF (show¬(-1:Int)<L[0] by omega)];rfl;rw[if_neg h0];have hb:Nat.beq i 0=false:=by
   cases i with
   |zero=>exact absurd rfl h0
   |succ i=>rfl
  rw[hb,cdF];by_cases ha:aim os L[i]=true;have:=wi ha;rw[ha,dcT this.1];cases decide ((L[i - 1]?).getD 0<L[i])<;>rfl;have ha:aim os L[i]=false:=by simpa using ha
  rw[ha];simp;by_cases hji:j=i;subst hji;left;rw[hg] at hn;unfold rt gt;rw[dcF (show¬0<=L[j] by omega)];have ha:aim os L[j]=false:=by cases ha:aim os L[j];rfl;have:=wi ha;omega
  rw[ha];simp;exact .inr ⟨j,oM,hn⟩
theorem f25_l1_eq(t:ah)(o:Obj)(r:Option Bool)(hl:o.set_.length<9223372036854775808):∀(n i:Nat)(z:Int),z=(i:Int)->i<=o.set_.length->o.set_.length<n+i->
  f25_l1 t o (λ_=>r) n z=bif rt t.objs o.set_ i (o.set_.drop i) then r else some false
 |0,i,z,_,_,h=>oM
 |n+1,i,z,hz,hi,h=>by
  subst hz;rw[f25_l1];by_cases hh:i<o.set_.length;rw[aV hh,rt,dcT (by omega:(i:Int)<(o.set_.length:Int)),cdT,aE hh,bnS,w64 (x:=(i:Int)+1) oM oM,f25_l1_eq t o r hl n (i+1) _ (by push_cast;rfl) oM oM];have hprev:i≠0->idx o.set_ (i64.wrap ((i:Int) - 1))=some ((o.set_[i - 1]?).getD 0):=λh0=>by
   rw[w64 oM oM,show(i:Int) - 1=((i - 1:Nat):Int) by omega,aE oM,geG oM];rfl
  generalize hx:o.set_[i]=x;unfold aim;by_cases h1:0<=x/\x<t.objs.length;obtain⟨y,hy,_⟩:=aI h1;rw[dcF (show¬x<0 by omega),dcF (show¬x>=(t.objs.length:Int) by omega),dcT h1.1,hy];simp only[Bool.or_self,cdF,bnS];by_cases h2:y.size=1;rw[dcT h2];cases h3:y.ptr;simp only[Bool.not_true,Bool.not_false,cdF,bnS,Bool.and_self,Bool.true_and];by_cases h0:i=0;subst h0;rfl;rw[dcT (by omega:(i:Int)>0),cdT,hprev h0];have hb:Nat.beq i 0=false:=by
   cases i with
   |zero=>exact absurd rfl h0
   |succ i=>rfl
  rw[hb,cdF];simp only[bnS];by_cases h4:(o.set_[i - 1]?).getD 0<x;rw[dcT h4,dcF oM];rfl;rw[dcF h4,dcT oM];rfl;rfl;rw[dcF h2];rfl;rw[dp h1];have:(decide (x<0)||decide (x>=(t.objs.length:Int)))=true:=by rw[Bool.or_eq_true];simp only[decide_eq_true_eq];omega
  rw[this];simp;rw[dcF (by omega:¬(i:Int)<(o.set_.length:Int)),cdF,List.drop_eq_nil_of_le oM];rfl
theorem f25_eq(t:ah)(o:Obj)(hl:o.set_.length<9223372036854775808):f25 t o=some (eI t.objs o):=by
 unfold f25 eI;rw[aw,f25_l1_eq t o _ hl _ 0 0 rfl (Nat.zero_le _) oM,List.drop_zero];have hs:rt t.objs o.set_ 0 o.set_=gt t.objs (-1) o.set_:=by
  rcases wG t.objs o.set_ 0 (Nat.zero_le _) with h|⟨j,hj,_⟩
  simpa using h;omega
 rw[hs];cases (decide (o.size<1)||decide (o.size>16384))||decide (o.lo>o.hi);cases o.ptr;by_cases h0:(o.set_.length:Int)=0;rw[dcT h0,dcF (show¬(o.set_.length:Int)>0 by omega)];have:o.set_=[]:=List.length_eq_zero_iff.1 oM;rw[this];rfl;rw[dcF h0,dcT (show(o.set_.length:Int)>0 by omega)];rfl;cases decide (o.lo=0)<;>cases decide (o.hi=0)<;>cases gt t.objs (-1) o.set_<;>cases decide ((o.set_.length:Int)>0)<;>rfl;rfl
theorem f26_eq(t:ah)(o f m:Int)(hm:0<=m):f26 t o f m=some (spot t.objs o f m):=by
 unfold f26 spot;by_cases h:0<=o/\o<t.objs.length;obtain⟨x,hx,_⟩:=aI h;rw[hx,dcT (show o>=0 from h.1),dcT h.2,dcT (show m>=0 from hm)];by_cases hf:0<=f;rw[dcT (show f>=0 from hf)];rfl;rw[dcF (show¬f>=0 from hf)];rfl;rw[dp h];have:(decide (o>=0)&&decide (o<(t.objs.length:Int)))=false:=by rw[Bool.and_eq_false_iff];simp only[decide_eq_false_iff_not];omega
 rw[this];rfl
theorem f14_l1_eq(t:ah)(k:Int->Option Bool)(hl:t.objs.length<9223372036854775808)(hs:∀o∈t.objs,o.set_.length<9223372036854775808):∀(n i:Nat)(z a:Int),z=(i:Int)->i<=t.objs.length->t.objs.length<n+i->
  f14_l1 t k n a z=bif (t.objs.drop i).all (eI t.objs) then k (ro a (t.objs.drop i)) else some false
 |0,i,z,a,_,_,h=>oM
 |n+1,i,z,a,hz,hi,h=>by
  subst hz;rw[f14_l1];by_cases hh:i<t.objs.length;rw[aV hh,List.all_cons,dcT (by omega:(i:Int)<(t.objs.length:Int)),cdT,aE hh,bnS,f25_eq t _ (hs _ (List.getElem_mem _)),bnS,w64 (x:=(i:Int)+1) oM oM,bnS];cases hc:eI t.objs t.objs[i];rfl;rw[Bool.not_true,cdF,Bool.true_and,f14_l1_eq t k hl hs n (i+1) _ _ (by push_cast;rfl) oM oM];rfl;rw[dcF (by omega:¬(i:Int)<(t.objs.length:Int)),cdF,List.drop_eq_nil_of_le oM];rfl
def neI(x y:dO):Bool:= !(decide (y.o=x.o)&&decide (y.slot=x.slot))
def gP(os:List Obj):List dO->List dO->Bool
 |_,[]=>true
 |P,x::r=>(dA os x&&P.all (neI x))&&gP os (P++ [x]) r
theorem f14_l3_eq(t:ah)(j:Nat)(x:dO)(r:Option Bool)(hj:j<=t.inits.length)(hl:t.inits.length<9223372036854775808):∀(n i:Nat)(z:Int),z=(i:Int)->i<=j->j<n+i->
  f14_l3 t (j:Int) (λ_ _ _=>r) x n z=bif ((t.inits.take j).drop i).all (neI x) then r else some false
 |0,i,z,_,_,h=>oM
 |n+1,i,z,hz,hi,h=>by
  subst hz;rw[f14_l3];have hL:(t.inits.take j).length=j:=by rw[List.length_take];omega
  by_cases hh:i<j;have e:(t.inits.take j)[i]'oM=t.inits[i]'oM:=List.getElem_take;rw[aV (L:=t.inits.take j) (i:=i) oM,List.all_cons,e,dcT (by omega:(i:Int)<(j:Int)),cdT,aE (show i<t.inits.length by omega),bnS,w64 oM oM,f14_l3_eq t j x r hj hl n (i+1) _ (by push_cast;rfl) oM oM];generalize t.inits[i]'oM=y;unfold neI;rw[bnS];cases decide (y.o=x.o)<;>cases decide (y.slot=x.slot)<;>rfl;rw[dcF (by omega:¬(i:Int)<(j:Int)),cdF,List.drop_eq_nil_of_le oM];rfl
theorem f14_l2_eq(t:ah)(r:Option Bool)(hl:t.inits.length<9223372036854775808)(hs:∀o∈t.objs,o.set_.length<9223372036854775808):∀(n i:Nat)(z:Int),z=(i:Int)->i<=t.inits.length->t.inits.length<n+i->
  f14_l2 t (λ_=>r) n z=bif gP t.objs (t.inits.take i) (t.inits.drop i) then r else some false
 |0,i,z,_,_,h=>oM
 |n+1,i,z,hz,hi,h=>by
  subst hz;rw[f14_l2];by_cases hh:i<t.inits.length;rw[aV hh,gP,<-List.take_succ_eq_append_getElem hh,dcT (by omega:(i:Int)<(t.inits.length:Int)),cdT,aw,aE hh,bnS,f26_eq _ _ _ _ oM,bnS,w64 oM oM,f14_l2_eq t r hl hs n (i+1) _ (by push_cast;rfl) oM oM];rw[f14_l3_eq t i _ _ oM hl _ 0 0 rfl (Nat.zero_le _) oM,List.drop_zero];generalize t.inits[i]=x;unfold dA;cases hsp:spot t.objs x.o x.slot 1;rfl;obtain⟨y,hy,_⟩:=eS hsp;rw[hy];simp only[Bool.not_true,bnS,cdF,Bool.true_and];rw[f27_eq _ _ (hs _ (cO hy))];simp only[bnS];cases fits y x.v<;>cases (t.inits.take i).all (neI x)<;>rfl;rw[dcF (by omega:¬(i:Int)<(t.inits.length:Int)),cdF,List.drop_eq_nil_of_le oM];rfl
theorem tY(P:List dO)(m:List ((Int×Int)×Bool))(x:dO):inM (P.foldl (λm x=>bP m (x.o,x.slot) true) m) (x.o,x.slot)=(inM m (x.o,x.slot)|| !(P.all (neI x))):=by
 induction P generalizing m with
 |nil=>simp
 |cons y P ih=>
  rw[List.foldl_cons,ih,o7,List.all_cons];have:decide ((y.o,y.slot)=(x.o,x.slot))= !(neI x y):=by unfold neI;rw[Bool.not_not];by_cases h1:y.o=x.o;by_cases h2:y.slot=x.slot;simp[h1,h2];simp[h1,h2];simp[h1]
  rw[this];cases neI x y<;>cases inM m (x.o,x.slot)<;>simp
theorem kX(os:List Obj):∀(r P:List dO),gP os P r=dT os (P.foldl (λm x=>bP m (x.o,x.slot) true) []) r
 |[],P=>rfl
 |x::r,P=>by
  rw[gP,dT,kX os r (P++ [x]),List.foldl_append,tY];have e:inM ([]:List ((Int×Int)×Bool)) (x.o,x.slot)=false:=rfl;rw[e,Bool.false_or,Bool.not_not];simp only[List.foldl_cons,List.foldl_nil];cases dA os x<;>cases P.all (neI x)<;>rfl
theorem yO{α:Type}(xs:List α)(F:Nat->Int->Option Bool)(k:Option Bool)(p:α->Bool)(hl:xs.length<9223372036854775808)
  (h0:∀n (i:Nat)(h:i<xs.length),F (n+1) (i:Int)=bif p xs[i] then F n ((i+1:Nat):Int) else some false)
  (h1:∀n,F (n+1) (xs.length:Int)=k):∀(n i:Nat)(z:Int),z=(i:Int)->i<=xs.length->xs.length<n+i->F n z=bif (xs.drop i).all p then k else some false
 |0,i,z,_,_,h=>oM
 |n+1,i,z,hz,hi,h=>by
  subst hz;by_cases hh:i<xs.length;rw[aV hh,List.all_cons,h0 n i hh,yO xs F k p hl h0 h1 n (i+1) _ rfl oM oM];grind;grind
theorem jo{α:Type}(xs:List α)(F:Nat->Int->Option Bool)(k:Option Bool)(p:α->Bool)(n:Nat)(hn:n=9223372036854775808)(hl:xs.length<9223372036854775808)
  (h0:∀n (i:Nat)(h:i<xs.length),F (n+1) (i:Int)=bif p xs[i] then F n ((i+1:Nat):Int) else some false)
  (h1:∀n,F (n+1) (xs.length:Int)=k):F n 0=bif xs.all p then k else some false:=by
 rw[yO xs F k p hl h0 h1 n 0 0 rfl (Nat.zero_le _) oM,List.drop_zero]
theorem jb{i n:Nat}(h:i<n):decide ((i:Int)<(n:Int))=true:=dcT oM
theorem gN{n:Nat}:decide ((n:Int)<(n:Int))=false:=dcF oM
theorem w1{i n:Nat}(h:i<n)(hl:n<9223372036854775808):i64.wrap ((i:Int)+1)=((i+1:Nat):Int):=by rw[w64 oM oM];push_cast;rfl
theorem f29_eq(t:ah)(l:List Int):f29 t l=some (dU t.objs l):=by
 unfold f29 dU;by_cases h:(l.length:Int)<=8;rw[dcT h,dcF (by omega:¬(l.length:Int)>8),cdF,aw,
  jo l (f29_l1 t l λ_=>some true) (some true) (oX t.objs) _ rfl oM (λn i hi=>by
   rw[f29_l1,jb hi,cdT,aE hi,bnS,w1 hi oM];generalize l[i]=x;unfold oX;by_cases hx:0<=x/\x<t.objs.length;obtain⟨y,hy,_⟩:=aI hx;rw[hy,dcF (show¬x<0 by omega)];simp only[cdF,bnS];rw[dcF (show¬x>=(t.objs.length:Int) by omega),cdF,hy,bnS];cases decide (y.size=1)<;>rfl;rw[dp hx];by_cases h1:x<0;rw[dcT h1];rfl;rw[dcF h1];simp only[cdF,bnS];rw[dcT (show x>=(t.objs.length:Int) by omega)];rfl) (λn=>by rw[f29_l1,gN,cdF])]
 cases l.all (oX t.objs)<;>rfl;grind
theorem f15_eq(t:ah):f15 t=some (dX t):=by
 unfold f15 dX;cases h1:(decide ((t.tasks.length:Int)<1)||decide ((t.tasks.length:Int)>32));have hl:(t.tasks.length:Int)<=32:=by simp_all
 rw[cdF,aw,jo t.tasks (f15_l1 t λ_=>some true) (some true) (eo t) _ rfl oM (λn i hi=>by
  rw[f15_l1,jb hi,cdT,aw,aE hi,bnS,w1 hi oM];generalize t.tasks[i]=x;unfold eo;have hat:f28 t x.at_=at1 t x.at_:=rfl;rw[hat];cases hc:(((((decide (x.prio<0)||decide (x.prio>31))||(!(at1 t x.at_)))||decide (x.deadline<0))||decide (x.deadline>2147483647))||decide ((x.entries.length:Int)>8));have he:(x.entries.length:Int)<=8:=by simp only[Bool.or_eq_false_iff,decide_eq_false_iff_not] at hc;omega
  rw[cdF,jo x.entries (f15_l2 t (λ_ _ _ _=>f15_l1 t (λ_=>some true) n ((i+1:Nat):Int)) x) (f15_l1 t (λ_=>some true) n ((i+1:Nat):Int)) (eG t.objs) _ rfl oM (λm j hj=>by
   rw[f15_l2,jb hj,cdT,aE hj,bnS,w1 hj oM,f29_eq,bnS,bnS,f29_eq];unfold eG;cases dU t.objs x.entries[j].ins<;>cases dU t.objs x.entries[j].outs<;>rfl) (λm=>by rw[f15_l2,gN,cdF])]
  cases x.entries.all (eG t.objs)<;>rfl;rfl) (λn=>by rw[f15_l1,gN,cdF])]
 cases t.tasks.all (eo t)<;>rfl;rfl
theorem wQ(a b:Int)(ha: -9223372036854775808<=a/\a<=9223372036854775807)(hb: -9223372036854775808<=b/\b<=9223372036854775807):
  decide ((i64.wrap (BitVec.ofInt i64.bits a|||BitVec.ofInt i64.bits b).toNat)=0)=(decide (a=0)&&decide (b=0)):=by
 have hz:∀x:BitVec 64,i64.wrap (x.toNat:Int)=0↔x=0#64:=λx=>by
  rw[IntKind.wrap_i64];constructor;intro h;apply BitVec.eq_of_toNat_eq;show x.toNat=0;omega;grind
 have hf:∀a:Int, -9223372036854775808<=a/\a<=9223372036854775807->(BitVec.ofInt 64 a=0#64↔a=0):=by grind [BitVec.toNat_ofInt]
 have e:(i64.wrap (BitVec.ofInt i64.bits a|||BitVec.ofInt i64.bits b).toNat=0)↔(a=0/\b=0):=(hz _).trans (BitVec.or_eq_zero_iff.trans (and_congr (hf a ha) (hf b hb)));grind
theorem xt(t:ah)(o:Int)(a:dI)(h1: -9223372036854775808<=a.entry/\a.entry<=9223372036854775807)(h2: -9223372036854775808<=a.time/\a.time<=9223372036854775807):f32 t o a=some (gz t o a):=by
 unfold f32 gz;rw[wQ _ _ h1 h2,f26_eq t o a.guard 1 oM,f26_eq t o a.time 1 oM];have hat:f28 t a.at_=at1 t a.at_:=rfl;have h8:decide (a.entry<=7)=decide (a.entry<8):=by grind
 rw[hat,h8];cases at1 t a.at_;rfl;cases decide (a.guard= -1);cases spot t.objs o a.guard 1;rfl;cases decide (a.kind=1);cases decide (a.kind=2)<;>cases decide (a.kind=3)<;>cases decide (a.kind=4)<;>cases decide (a.entry=0)<;>cases decide (a.time=0)<;>rfl;rfl;cases decide (a.kind=1);cases decide (a.kind=2)<;>cases decide (a.kind=3)<;>cases decide (a.kind=4)<;>cases decide (a.entry=0)<;>cases decide (a.time=0)<;>rfl;rfl
theorem tI{os:List Obj}{o:Int}(hp:∀y,idx os o=some y->1<=y.size/\y.size<=65536):spot os o 0 1=(decide (0<=o)&&decide (o<(os.length:Int))):=by unfold spot;by_cases h:0<=o/\o<os.length;obtain⟨x,hx,_⟩:=aI h;grind [w64];grind [dp]
theorem f17_l2_eq(t:ah)(x:bU)(r:Option Bool)(ha:∀a∈x.alts,(-9223372036854775808<=a.entry/\a.entry<=9223372036854775807)/\-9223372036854775808<=a.time/\a.time<=9223372036854775807)(hl:x.alts.length<9223372036854775808)(n:Nat)(hn:n=9223372036854775808):
  f17_l2 t (λ_ _ _=>r) x n 0=bif x.alts.all (gz t x.obj) then r else some false:=
 jo x.alts (f17_l2 t (λ_ _ _=>r) x) r (gz t x.obj) n hn hl (λm j hj=>by
  have:=ha _ (List.getElem_mem hj);rw[f17_l2,jb hj,cdT,aE hj,bnS,w1 hj hl,xt _ _ _ this.1 this.2,bnS];cases gz t x.obj x.alts[j]<;>rfl) (λm=>by rw[f17_l2,gN,cdF])
def jC{α:Type}(q:List α->α->Bool):List α->List α->Bool
 |_,[]=>true
 |P,x::r=>q P x&&jC q (P++ [x]) r
theorem xF{α:Type}(xs:List α)(F:Nat->Int->Option Bool)(k:Option Bool)(q:List α->α->Bool)(hl:xs.length<9223372036854775808)
  (h0:∀n (i:Nat)(h:i<xs.length),F (n+1) (i:Int)=bif q (xs.take i) xs[i] then F n ((i+1:Nat):Int) else some false)
  (h1:∀n,F (n+1) (xs.length:Int)=k):∀(n i:Nat)(z:Int),z=(i:Int)->i<=xs.length->xs.length<n+i->F n z=bif jC q (xs.take i) (xs.drop i) then k else some false
 |0,i,z,_,_,h=>oM
 |n+1,i,z,hz,hi,h=>by
  subst hz;by_cases hh:i<xs.length;rw[aV hh,jC,<-List.take_succ_eq_append_getElem hh,h0 n i hh,xF xs F k q hl h0 h1 n (i+1) _ rfl oM oM];grind;have e:i=xs.length:=oM;subst e;rw[h1,List.drop_eq_nil_of_le (Nat.le_refl _)];rfl
theorem sA{α:Type}(xs:List α)(F:Nat->Int->Option Bool)(k:Option Bool)(q:List α->α->Bool)(n:Nat)(hn:n=9223372036854775808)(hl:xs.length<9223372036854775808)
  (h0:∀n (i:Nat)(h:i<xs.length),F (n+1) (i:Int)=bif q (xs.take i) xs[i] then F n ((i+1:Nat):Int) else some false)
  (h1:∀n,F (n+1) (xs.length:Int)=k):F n 0=bif jC q [] xs then k else some false:=by
 rw[xF xs F k q hl h0 h1 n 0 0 rfl (Nat.zero_le _) oM,List.drop_zero,List.take_zero]
theorem rk{α:Type}(xs:List α)(j:Nat)(hj:j<=xs.length)(F:Nat->Int->Option Bool)(k:Option Bool)(p:α->Bool)(n:Nat)(hn:n=9223372036854775808)(hl:xs.length<9223372036854775808)
  (h0:∀n (i:Nat)(h:i<xs.length),i<j->F (n+1) (i:Int)=bif p xs[i] then F n ((i+1:Nat):Int) else some false)
  (h1:∀n,F (n+1) (j:Int)=k):F n 0=bif (xs.take j).all p then k else some false:=by
 have hL:(xs.take j).length=j:=by grind
 refine jo (xs.take j) F k p n hn oM (λm i h=>?_) (λm=>by rw[hL];exact h1 m);grind
def ql(n:Int)(P:List Int)(x:Int):Bool:= !(decide (x<1)||decide (x>=n))&&P.all λy=> !(decide (y=x))
theorem vu(P:List Int)(m:List (Int×Bool))(x:Int):inM (P.foldl (λm x=>bP m x true) m) x=(inM m x|| !(P.all λy=> !(decide (y=x)))):=by
 induction P generalizing m with
 |nil=>simp
 |cons y P ih=>grind [o7,inM]
theorem qk(n:Int):∀(r P:List Int),jC (ql n) P r=gO n (P.foldl (λm x=>bP m x true) []) r
 |[],P=>rfl
 |x::r,P=>by
  rw[jC,gO,qk n r (P++ [x]),List.foldl_append,vu];have e:inM ([]:List (Int×Bool)) x=false:=rfl;grind [ql]
theorem f17_l4_eq(t:ah)(l:List Int)(r:Option Bool)(hl:l.length<9223372036854775808)(n:Nat)(hn:n=9223372036854775808):
  f17_l4 t (λ_=>r) l n 0=bif gO t.tasks.length [] l then r else some false:=by
 rw[show gO (t.tasks.length:Int) [] l=jC (ql t.tasks.length) [] l from(qk _ l []).symm];refine sA l (f17_l4 t (λ_=>r) l) r (ql t.tasks.length) n hn hl (λm i hi=>?_) (λm=>by rw[f17_l4,gN,cdF]);rw[f17_l4,jb hi,cdT,aw,aE hi,bnS,w1 hi hl,bnS];unfold ql;rw[rk l i oM (f17_l5 l (i:Int) λ_=>f17_l4 t (λ_=>r) l m ((i+1:Nat):Int)) (f17_l4 t (λ_=>r) l m ((i+1:Nat):Int)) (λy=> !(decide (y=l[i]))) _ rfl hl (λm' j hj hji=>by
  rw[f17_l5,dcT (by omega:(j:Int)<(i:Int)),cdT,aE hj,bnS,aE hi,bnS,w1 hj hl];cases decide (l[j]=l[i])<;>rfl) (λm'=>by rw[f17_l5,gN,cdF])]
 grind
theorem f17_l3_eq(t:ah)(r:Option Bool)(hl:t.lists.length<9223372036854775808)(n:Nat)(hn:n=9223372036854775808):
  f17_l3 t (λ_=>r) n 0=bif t.lists.all (mG t) then r else some false:=by
 refine jo t.lists (f17_l3 t λ_=>r) r (mG t) n hn hl (λm i hi=>?_) (λm=>by rw[f17_l3,gN,cdF]);rw[f17_l3,jb hi,cdT,aw,aE hi,bnS,w1 hi hl];generalize t.lists[i]=x;unfold mG;by_cases h:(x.length:Int)>32;grind;rw[dcF h,cdF,f17_l4_eq t x _ oM _ rfl];grind
structure SzA(t:ah):Prop where
 alts:∀x∈t.selects,∀a∈x.alts,(-9223372036854775808<=a.entry/\a.entry<=9223372036854775807)/\-9223372036854775808<=a.time/\a.time<=9223372036854775807
theorem f17_l1_eq(t:ah)(ha:SzA t)(hp:∀o y,idx t.objs o=some y->1<=y.size/\y.size<=65536)(r:Option Bool)(hl:t.selects.length<9223372036854775808)(n:Nat)(hn:n=9223372036854775808):
  f17_l1 t (λ_=>r) n 0=bif t.selects.all (jY t) then r else some false:=by
 refine jo t.selects (f17_l1 t λ_=>r) r (jY t) n hn hl (λm i hi=>?_) (λm=>by rw[f17_l1,gN,cdF]);rw[f17_l1,jb hi,cdT,aw,aE hi,bnS,w1 hi hl];have hx:=ha.alts _ (List.getElem_mem hi);generalize t.selects[i]=x at hx;have hat:f28 t x.else_=at1 t x.else_:=rfl;rw[f26_eq t x.obj 0 1 oM,tI (hp x.obj),hat];unfold jY;by_cases hc:1<=(x.alts.length:Int)/\(x.alts.length:Int)<=16;rw[dcF (show¬(x.alts.length:Int)<1 by omega),dcF (show¬(x.alts.length:Int)>16 by omega)];rw[f17_l2_eq t x _ hx oM _ rfl];by_cases h1:0<=x.obj;rw[dcT h1,dcF (show¬x.obj<0 by omega)];by_cases h2:x.obj<(t.objs.length:Int);rw[dcT h2,dcF (show¬x.obj>=(t.objs.length:Int) by omega)];cases decide (x.else_= -1)<;>cases at1 t x.else_<;>cases x.alts.all (gz t x.obj)<;>rfl;grind;grind;grind
theorem f17_eq(t:ah)(ha:SzA t)(hp:∀o y,idx t.objs o=some y->1<=y.size/\y.size<=65536):f17 t=some (lF t&&jG t):=by unfold f17 lF jG;by_cases h1:(t.selects.length:Int)>1024;grind;rw[dcF h1,Bool.false_or];by_cases h2:(t.lists.length:Int)>4096;grind;rw[dcF h2,cdF,aw,f17_l1_eq t ha hp _ oM _ rfl,aw,f17_l3_eq t _ oM _ rfl];grind
def w7(t:ah)(P:List bi)(x:bi):Bool:= !(fH t x)&&P.all λg=> !((!(decide (g.from_>=x.from_)&&decide (g.to<=x.to)))&&(!(decide (g.to<=x.from_)||decide (x.to<=g.from_))))
theorem sF{x g:bi}(hx:x.from_<x.to)(hg:g.from_<g.to):kQ x g= !((!(decide (g.from_>=x.from_)&&decide (g.to<=x.to)))&&(!(decide (g.to<=x.from_)||decide (x.to<=g.from_)))):=by
 have e:decide ((if x.from_>g.from_ then x.from_ else g.from_)<(if x.to<g.to then x.to else g.to))=(!(decide (g.to<=x.from_)||decide (x.to<=g.from_))):=by by_cases h1:g.to<=x.from_;grind;grind
 unfold kQ;rw[e]
theorem t7{t:ah}{x:bi}(h:fH t x=false):x.from_<x.to:=by unfold fH at h;simp only[Bool.or_eq_false_iff,decide_eq_false_iff_not] at h;omega
theorem sR(t:ah):∀(r P:List bi),(∀g∈P,g.from_<g.to)->jC (w7 t) P r=gp t P r
 |[],P,_=>rfl
 |x::r,P,hP=>by
  rw[jC,gp,w7];cases hb:fH t x;have hx:=t7 hb;rw[sR t r (P++ [x]) (λg hg=>by
   rcases List.mem_append.1 hg with h|h
   exact hP g h;rw[List.mem_singleton] at h;subst h;exact hx)]
  have e:(P.all λg=> !((!(decide (g.from_>=x.from_)&&decide (g.to<=x.to)))&&(!(decide (g.to<=x.from_)||decide (x.to<=g.from_)))))=P.all (kQ x):=by rw[Bool.eq_iff_iff,List.all_eq_true,List.all_eq_true];constructor;intro h g hg;rw[sF hx (hP g hg)];exact h g hg;intro h g hg;rw[<-sF hx (hP g hg)];exact h g hg
  rw[e];rfl
theorem f18_eq(t:ah):f18 t=some (lR t):=by
 unfold f18 lR;cases h1:decide ((t.handlers.length:Int)>4096);have hl:(t.handlers.length:Int)<=4096:=by simp_all
 rw[cdF,aw,sA t.handlers (f18_l1 t λ_=>some true) (some true) (w7 t) _ rfl oM (λn i hi=>by
  rw[f18_l1,jb hi,cdT,aw,aE hi,bnS,w1 hi oM];generalize t.handlers[i]=x;unfold w7;have hat:f28 t x.at_=at1 t x.at_:=rfl;have hb:(((((decide (x.from_<0))||(decide (x.from_>=x.to)))||(decide (x.to>(List.length t.insns:Int))))||(!(f28 t x.at_)))||((decide (x.at_>=x.from_))&&(decide (x.at_<x.to))))=fH t x:=by rw[hat];rfl
  rw[hb];cases fH t x;rw[cdF,rk t.handlers i oM (f18_l2 t (i:Int) (λ_ _ _ _=>f18_l1 t (λ_=>some true) n ((i+1:Nat):Int)) x) (f18_l1 t (λ_=>some true) n ((i+1:Nat):Int)) (λg=> !((!(decide (g.from_>=x.from_)&&decide (g.to<=x.to)))&&(!(decide (g.to<=x.from_)||decide (x.to<=g.from_))))) _ rfl oM (λm j hj hji=>by
   rw[f18_l2,dcT (by omega:(j:Int)<(i:Int)),cdT,aE hj,bnS,w1 hj oM];generalize t.handlers[j]=g;cases ((!(decide (g.from_>=x.from_)&&decide (g.to<=x.to)))&&(!(decide (g.to<=x.from_)||decide (x.to<=g.from_))))<;>rfl) (λm=>by rw[f18_l2,gN,cdF])]
  rfl;rfl) (λn=>by rw[f18_l1,gN,cdF]),sR t _ _ λg hg=>by cases hg]
 cases gp t [] t.handlers<;>rfl;rfl
def lpQ(t:ah)(P:List Loop)(x:Loop):Bool:=rL t x&&P.all λy=> !(decide (y.back=x.back))
theorem wZ(P:List Loop)(m:List (Int×Bool))(x:Loop):inM (P.foldl (λm x=>bP m x.back true) m) x.back=(inM m x.back|| !(P.all λy=> !(decide (y.back=x.back)))):=by
 induction P generalizing m with
 |nil=>simp
 |cons y P ih=>grind [o7,inM]
theorem vi(t:ah):∀(r P:List Loop),jC (lpQ t) P r=jj t (P.foldl (λm x=>bP m x.back true) []) r
 |[],P=>rfl
 |x::r,P=>by
  rw[jC,jj,vi t r (P++ [x]),List.foldl_append,wZ];have e:inM ([]:List (Int×Bool)) x.back=false:=rfl;grind [lpQ,rL]
theorem wW(t:ah)(x:Loop):(((((!(f28 t x.head))||(!(f28 t x.back)))||(decide (x.head>x.back)))||(decide (x.bound<0)))||(decide (x.bound>2147483647)))=(((decide (x.head<0)||decide (x.head>x.back))||(!(at1 t x.back)))||(decide (x.bound<0)||decide (x.bound>2147483647))):=by have h1:f28 t x.head=(decide (x.head>=0)&&decide (x.head<(t.insns.length:Int))):=rfl;grind [f28,at1]
theorem f19_eq(t:ah):f19 t=some (rK t):=by
 unfold f19 rK;cases h1:decide ((t.loops.length:Int)>4096);have hl:(t.loops.length:Int)<=4096:=by simp_all
 rw[cdF,aw,sA t.loops (f19_l1 t λ_=>some true) (some true) (lpQ t) _ rfl oM (λn i hi=>by
  rw[f19_l1,jb hi,cdT,aw,aE hi,bnS,w1 hi oM];generalize t.loops[i]=x;rw[wW];unfold lpQ rL;cases hc:(decide (x.head<0)||decide (x.head>x.back))||(!(at1 t x.back));have h2:at1 t x.back=true:=by cases h:at1 t x.back;rw[h] at hc;simp at hc;rfl
  obtain⟨y,hy,_⟩:=aI (fx.1 h2);rw[hy,bnS];cases hd:(decide (x.bound<0)||decide (x.bound>2147483647));rw[Bool.or_self,cdF];have e:((((!decide (y.op=29))&&(!decide (y.op=30)))&&(!decide (y.op=31)))||(!decide (y.to=x.head)))= !(f89 y x.head):=by unfold f89;cases decide (y.op=29)<;>cases decide (y.op=30)<;>cases decide (y.op=31)<;>cases decide (y.to=x.head)<;>rfl
  rw[e,rk t.loops i oM (f19_l2 t (i:Int) n (λ_ _ _ _ _ _ _ _ _ _=>f19_l1 t (λ_=>some true) n ((i+1:Nat):Int)) x y) (f19_l1 t (λ_=>some true) n ((i+1:Nat):Int)) (λg=> !(decide (g.back=x.back))) _ rfl oM (λm j hj hji=>by
   rw[f19_l2,dcT (by omega:(j:Int)<(i:Int)),cdT,aE hj,bnS,w1 hj oM];generalize t.loops[j]=g;cases decide (g.back=x.back)<;>rfl) (λm=>by rw[f19_l2,gN,cdF])]
  dsimp only;cases f89 y x.head<;>rfl;rw[Bool.or_true,Bool.not_true,Bool.and_false,Bool.false_and];rfl;rfl) (λn=>by rw[f19_l1,gN,cdF]),show jC (lpQ t) [] t.loops=jj t [] t.loops from vi t _ []]
 cases jj t [] t.loops<;>rfl;rfl
def nA(z:Bool×Int):Int:=bif z.1 then z.2 else -1
theorem vL(g:Int->bj->Bool×Int)(hg:∀l e,0<=l->l<=256->(g l e).1=true->0<=(g l e).2/\(g l e).2<=256):∀(L:List bj)(l:Int),0<=l->l<=256->(exL g L l).1=true->0<=(exL g L l).2/\(exL g L l).2<=256
 |[],l,h0,h1,_=>⟨h0,h1⟩
 |e::r,l,h0,h1,h=>by
  rw[exL] at h⊢;cases hb:(g l e).1;grind;rw[hb,cdT] at h;have:=hg l e h0 h1 hb;exact vL g hg r _ this.1 this.2 h
theorem rS(os:List Obj)(ent:Int):∀(n:Nat)(deep left:Int)(e:bj),0<=left->left<=256->(exF os ent n deep left e).1=true->0<=(exF os ent n deep left e).2/\(exF os ent n deep left e).2<=256
 |0,deep,left,e,_,_,h=>by cases h
 |n+1,deep,left,e,h0,h1,h=>by
  rw[exF] at h⊢;cases hb:((decide (i64.wrap (left - 1)<0)||decide (deep>64))||ep os ent e);rw[hb,cdF] at h;rw[w64 oM oM] at hb h⊢;have:¬left - 1<0:=by simp_all
  exact vL _ (λl e a b c=>rS os ent n (deep+1) l e a b c) _ _ oM oM h;grind
theorem f30_loop(rec:ah->Int->bj->Int->Int->Option Int)(t:ah)(ent:Int)(e:bj)(deep:Int)(g:Int->bj->Bool×Int)
  (hr:∀l x,0<=l->l<=256->rec t ent x (i64.wrap (deep+1)) l=some (nA (g l x)))(hg:∀l e,0<=l->l<=256->(g l e).1=true->0<=(g l e).2/\(g l e).2<=256)(hl:e.l.length<9223372036854775808):
  ∀(n i:Nat)(z left:Int),z=(i:Int)->i<=e.l.length->e.l.length<n+i->0<=left->left<=256->f30s_l1 rec t ent e deep (λn=>some n) n left z=some (nA (exL g (e.l.drop i) left))
 |0,i,z,left,_,_,h,_,_=>oM
 |n+1,i,z,left,hz,hi,h,h0,h1=>by
  subst hz;rw[f30s_l1,dcT (show left>=0 from h0),Bool.and_true];by_cases hh:i<e.l.length;rw[aV hh,jb hh,cdT,aE hh,bnS,hr _ _ h0 h1,bnS,w1 hh hl,exL];cases hb:(g left e.l[i]).1;rw[nA,hb,cdF,cdF];cases n with
  |zero=>omega
  |succ n=>rw[f30s_l1,dcF (show¬(-1:Int)>=0 by omega),Bool.and_false];rfl
  have:=hg _ _ h0 h1 hb;rw[nA,hb,cdT,cdT,f30_loop rec t ent e deep g hr hg hl n (i+1) _ _ rfl oM oM this.1 this.2];have ei:i=e.l.length:=oM;subst ei;rw[gN,cdF,List.drop_eq_nil_of_le (Nat.le_refl _)];rfl
theorem rp(f p a b c d l lo hi:Bool):((!f)||(!((((((a&&b)&&c)&&d)&&l)&&lo)&&hi))||(!p))=(((((((((!f)||(!p))||(!a))||(!b))||(!c))||(!d))||(!l))||(!lo))||(!hi)):=by grind
def fX(z:Bool×Int×Int×Int×Int×Int)(e:bj):Bool:=
 ((((((((!z.1)||(!decide ((List.length e.l:Int)=z.2.1)))||(!decide (e.op=z.2.2.1)))||(!decide (e.n=z.2.2.2.1)))||(!decide (e.o=z.2.2.2.2.1)))||(!decide (e.off=z.2.2.2.2.2)))||(!decide (e.len=0)))||(!decide (e.lo=0)))||(!decide (e.hi=0))
theorem pV(os:List Obj)(ent:Int)(e:bj):ep os ent e=fX (cG os ent e) e:=rfl
def pj(rec136:ah->Int->bj->Int->Int->Option (Int))(t0:ah)(entries1:Int)(e2:bj)(deep3:Int)(n4:Int)(parts174:Int)(fine175:Bool)(c01176:Int)(c02177:Int)(c03178:Int)(c04179:Int):Option Int:=
 (bif (((!fine175)||(!(((((((decide (e2.op=c01176))&&(decide (e2.n=c02177)))&&(decide (e2.o=c03178)))&&(decide (e2.off=c04179)))&&(decide (e2.len=0)))&&(decide (e2.lo=0)))&&(decide (e2.hi=0)))))||(!decide ((List.length e2.l:Int)=parts174))) then some (-1) else letk (λ(n186:Int)=>
 some n186) λk187=>
 (f30s_l1 rec136 t0 entries1 e2 deep3 k187 9223372036854775808 (i64.wrap (n4 - 1)) 0))
theorem f30s_W(rec136:ah->Int->bj->Int->Int->Option (Int))(t:ah)(ent:Int)(e:bj)(deep left:Int):f30s rec136 t ent e deep left=
  (bif ((decide (left=0))||(decide (deep>64))) then some (-1) else
  bif (decide (e.kind=1)) then pj rec136 t ent e deep left 0 true 0 e.n 0 0 else
  bif (decide (e.kind=2)) then(Option.bind (f26 t e.o e.off 1) λr181=>Option.bind (bif r181 then(Option.bind (idx t.objs e.o) λx183=>some (!x183.ptr)) else some false) λb182=>pj rec136 t ent e deep left 0 b182 0 0 e.o e.off) else
  bif (decide (e.kind=14)) then pj rec136 t ent e deep left 0 ((decide (e.n>=0))&&(decide (e.n<ent))) 0 e.n 0 0 else
  bif (decide (e.kind=4)) then pj rec136 t ent e deep left 1 true 18 0 0 0 else
  bif (decide (e.kind=5)) then pj rec136 t ent e deep left 2 ((decide (e.op>=7))&&(decide (e.op<=15))) e.op 0 0 0 else
  bif (decide (e.kind=6)) then(bif decide (e.kind=6) then pj rec136 t ent e deep left 2 true 0 0 0 0 else some (-1)) else(bif decide (e.kind=7) then pj rec136 t ent e deep left 2 true 0 0 0 0 else some (-1))):=rfl
theorem xx(rec:ah->Int->bj->Int->Int->Option Int)(t:ah)(ent:Int)(e:bj)(deep left:Int)(g:Int->bj->Bool×Int)
  (hr:∀l x,0<=l->l<=256->rec t ent x (i64.wrap (deep+1)) l=some (nA (g l x)))(hg:∀l e,0<=l->l<=256->(g l e).1=true->0<=(g l e).2/\(g l e).2<=256)(h0:1<=left)(h1:left<=256)
  (parts:Int)(fine:Bool)(a b c d:Int)(hp:parts<=2):pj rec t ent e deep left parts fine a b c d=some (nA (bif fX (fine,parts,a,b,c,d) e then(false,i64.wrap (left - 1)) else exL g e.l (i64.wrap (left - 1)))):=by
 unfold pj;rw[rp];show(bif fX (fine,parts,a,b,c,d) e then _ else _)=_;cases hs:fX (fine,parts,a,b,c,d) e;have hl:(e.l.length:Int)=parts:=by grind [fX]
 rw[cdF,cdF,aw,w64 oM oM,f30_loop rec t ent e deep g hr hg oM _ 0 0 _ rfl (Nat.zero_le _) oM oM oM,List.drop_zero];rfl
theorem f30s_eq(rec:ah->Int->bj->Int->Int->Option Int)(t:ah)(ent:Int)(e:bj)(deep left:Int)(g:Int->bj->Bool×Int)
  (hr:∀l x,deep<=64->0<=l->l<=256->rec t ent x (i64.wrap (deep+1)) l=some (nA (g l x)))(hg:∀l e,0<=l->l<=256->(g l e).1=true->0<=(g l e).2/\(g l e).2<=256)(h0:0<=left)(h1:left<=256):
  f30s rec t ent e deep left=some (nA (bif (decide (i64.wrap (left - 1)<0)||decide (deep>64))||ep t.objs ent e then(false,i64.wrap (left - 1)) else exL g e.l (i64.wrap (left - 1)))):=by
 rw[f30s_W];have e0:decide (i64.wrap (left - 1)<0)=decide (left=0):=by grind [w64]
 rw[e0];cases hc:(decide (left=0)||decide (deep>64));simp only[Bool.or_eq_false_iff,decide_eq_false_iff_not] at hc;have W:=xx rec t ent e deep left g (λl x=>hr l x oM) hg oM h1;rw[cdF,Bool.false_or,pV];unfold cG;cases k1:decide (e.kind=1);cases k2:decide (e.kind=2);cases k3:decide (e.kind=14);cases k4:decide (e.kind=4);cases k5:decide (e.kind=5);cases k6:decide (e.kind=6);cases k7:decide (e.kind=7);rfl;grind;grind;refine(W 2 _ e.op 0 0 0 oM).trans ?_;have es:fX ((decide (e.op>=7)&&decide (e.op<=15)),2,e.op,0,0,0) e=fX (true,2,(if(if 15<e.op then 15 else e.op)>7 then(if 15<e.op then 15 else e.op) else 7),0,0,0) e:=by
  by_cases hh:7<=e.op/\e.op<=15;grind;have:e.op≠(if(if 15<e.op then 15 else e.op)>7 then(if 15<e.op then 15 else e.op) else 7):=by omega
  grind [fX]
 rw[es];rfl;grind;grind;rw[cdF,cdF,cdT,cdT,f26_eq t e.o e.off 1 oM,bnS];cases hs:spot t.objs e.o e.off 1;exact W 0 false 0 0 e.o e.off oM;obtain⟨y,hy,_⟩:=eS hs;rw[cdT,hy,bnS,bnS];refine(W 0 _ 0 0 e.o e.off oM).trans ?_;dsimp only;cases y.ptr<;>rfl;grind;rfl
theorem f30_eq(t:ah)(ent:Int):∀(n:Nat)(deep left:Int)(e:bj),1<=deep->deep<=65->66<n+deep->0<=left->left<=256->f30 (n+1) t ent e deep left=some (nA (exF t.objs ent n deep left e))
 |0,deep,left,e,h0,h1,h2,_,_=>oM
 |n+1,deep,left,e,h0,h1,h2,h3,h4=>by
  refine f30s_eq (f30 (n+1)) t ent e deep left (exF t.objs ent n (deep+1)) (λl x hd a b=>?_) (λl x a b c=>rS t.objs ent n (deep+1) l x a b c) h3 h4;rw[w64 oM oM];exact f30_eq t ent n (deep+1) l x oM oM oM a b
theorem f31_eq(t:ah)(a:Int):f31 t a=some (chk t a):=by unfold f31 chk;have hat:f28 t a=at1 t a:=rfl;rw[hat];cases h:at1 t a;rw[dp (λhh=>by rw[fx.2 hh] at h;cases h)];rfl;obtain⟨y,hy,_⟩:=aI (fx.1 h);rw[hy];dsimp only[bnS,cdT];cases decide (y.op=27)<;>rfl
def ckQ(t:ah)(P:List c4)(x:c4):Bool:=(chk t x.at_&&(match P.getLast? with|none=>true|some y=>decide (y.at_<x.at_)))&& !(decide (x.kind<1)||decide (x.kind>5))
theorem yN{t:ah}{a:Int}(h:chk t a=true):0<=a:=by
 unfold chk at h;cases hx:idx t.insns a with
 |none=>rw[hx] at h;cases h
 |some y=>exact(db hx).1
theorem wa(t:ah):∀(r P:List c4),jC (ckQ t) P r=iL t (match P.getLast? with|none=> -1|some y=>y.at_) r
 |[],P=>rfl
 |x::r,P=>by
  rw[jC,iL,wa t r (P++ [x]),List.getLast?_append,ckQ];simp only[List.getLast?_singleton,Option.or_some,Option.getD_some];cases hc:chk t x.at_;simp;have:=yN hc;cases P.getLast? with
  |none=>dsimp only;rw[dcT (show(-1:Int)<x.at_ by omega)];simp
  |some y=>dsimp only;cases decide (y.at_<x.at_)<;>simp
theorem f16_l3_eq(t:ah)(r:Option Bool)(hl:t.checks.length<9223372036854775808)(n:Nat)(hn:n=9223372036854775808):f16_l3 t (λ_=>r) n 0=bif iL t (-1) t.checks then r else some false:=by
 rw[show iL t (-1) t.checks=jC (ckQ t) [] t.checks from(wa t _ []).symm];refine sA t.checks (f16_l3 t λ_=>r) r (ckQ t) n hn hl (λm i hi=>?_) (λm=>by rw[f16_l3,gN,cdF]);rw[f16_l3,jb hi,cdT,aE hi,bnS,w1 hi hl,f31_eq,bnS];have hprev:i≠0->idx t.checks (i64.wrap ((i:Int) - 1))=(t.checks.take i).getLast? :=λh0=>by
  rw[w64 oM oM,show(i:Int) - 1=((i - 1:Nat):Int) by omega,aE oM,List.getLast?_eq_getElem?,List.length_take,List.getElem?_take_of_lt oM,show min i t.checks.length - 1=i - 1 by omega,geG]
 generalize hx:t.checks[i]=x;unfold ckQ;by_cases h0:i=0;subst h0;rw[dcF (show¬((0:Nat):Int)>0 by omega)];cases chk t x.at_<;>cases decide (x.kind<1)<;>cases decide (x.kind>5)<;>rfl;rw[dcT (show((i:Nat):Int)>0 by omega),hprev h0];have hs:∃y,(t.checks.take i).getLast? =some y:=by rw[<-hprev h0,w64 oM oM,show(i:Int) - 1=((i - 1:Nat):Int) by omega,aE oM];exact⟨_,rfl⟩
 obtain⟨y,hy⟩:=hs;rw[hy];dsimp only[cdT,bnS];have e:decide (y.at_>=x.at_)= !(decide (y.at_<x.at_)):=by by_cases h:y.at_<x.at_;rw[dcT h,dcF oM];rfl;rw[dcF h,dcT oM];rfl
 rw[e];cases chk t x.at_<;>cases decide (y.at_<x.at_)<;>cases decide (x.kind<1)<;>cases decide (x.kind>5)<;>rfl
theorem f16_l1_eq(t:ah)(r:Option Bool)(hl:t.prots.length<9223372036854775808)(n:Nat)(hn:n=9223372036854775808):f16_l1 t (λ_=>r) n 0=bif t.prots.all (gM t) then r else some false:=by
 refine jo t.prots (f16_l1 t λ_=>r) r (gM t) n hn hl (λm i hi=>?_) (λm=>by rw[f16_l1,gN,cdF]);rw[f16_l1,jb hi,cdT,aw,aE hi,bnS,w1 hi hl];generalize t.prots[i]=x;unfold gM;cases hc:(decide (x.ceiling<0)||decide (x.ceiling>31))||decide ((x.barriers.length:Int)>8);have he:(x.barriers.length:Int)<=8:=by simp only[Bool.or_eq_false_iff,decide_eq_false_iff_not] at hc;omega
 rw[cdF,jo x.barriers (f16_l2 t (λ_ _=>f16_l1 t (λ_=>r) m ((i+1:Nat):Int)) x) (f16_l1 t (λ_=>r) m ((i+1:Nat):Int)) (l4 t x.barriers.length) _ rfl oM (λk j hj=>by
  rw[f16_l2,jb hj,cdT,aE hj,bnS,w1 hj oM,f30_eq t _ 66 1 256 _ oM oM oM oM oM,bnS];unfold l4 nA;have hle:=rS t.objs x.barriers.length 66 1 256 x.barriers[j] oM oM;cases hb:(exF t.objs x.barriers.length 66 1 256 x.barriers[j]).1;rfl;have:=hle hb;rw[cdT,dcF oM];rfl) (λk=>by rw[f16_l2,gN,cdF])]
 cases x.barriers.all (l4 t x.barriers.length)<;>rfl;rfl
theorem f16_eq(t:ah)(hl:t.checks.length<9223372036854775808):f16 t=some (ir t&&iL t (-1) t.checks):=by unfold f16 ir;by_cases h:(t.prots.length:Int)<=32;rw[dcT h,dcF (show¬(t.prots.length:Int)>32 by omega),cdF,aw,aw,f16_l1_eq t _ oM _ rfl,f16_l3_eq t _ hl _ rfl];cases t.prots.all (gM t)<;>cases iL t (-1) t.checks<;>rfl;rw[dcF h,dcT (show(t.prots.length:Int)>32 by omega),Bool.and_false];rfl
def ua(c:Int):Bool:=decide (c=68)||(decide (c=65)||(decide (c=66)||(decide (c=78)||(decide (c=77)||decide (c=84)))))
def mt:List Field->List (Int×Int)->Bool
 |[],[]=>true
 |f::F,(c,w)::L=>decide (f.name=c)&&(decide (f.lo=(f150 w).1)&&(decide (f.hi=(f150 w).2)&&(ua c&&(F.all (λg=> !(decide (g.name=c)))&&mt F L))))
 |_,_=>false
def goF(x:aG):List Field->aG->Bool
 |[],c=>(decide (c.op=0))&&((decide (c.d=0))&&((decide (c.a=0))&&((decide (c.b=0))&&((decide (c.n=0))&&((decide (c.m=0))&&((decide (c.to=0))&&true))))))
 |f::F,c=> !((decide ((f65 x f.name)<f.lo))||(decide ((f65 x f.name)>f.hi)))&&goF x F (f66 c f.name 0)
theorem gQ{c:Int}(h:ua c=true):c=68\/c=65\/c=66\/c=78\/c=77\/c=84:=by unfold ua at h;simpa only[Bool.or_eq_true,decide_eq_true_eq] using h
theorem f65_set{c:aG}{a b:Int}(ha:ua a=true)(hb:ua b=true)(h:b≠a):f65 (f66 c a 0) b=f65 c b:=by rcases gQ ha with rfl|rfl|rfl|rfl|rfl|rfl<;>rcases gQ hb with rfl|rfl|rfl|rfl|rfl|rfl<;>first|exact absurd rfl h|rfl
theorem f66_op(c:aG)(a:Int):(f66 c a 0).op=c.op:=by unfold f66;rw[aw];cases decide (a=68)<;>cases decide (a=65)<;>cases decide (a=66)<;>cases decide (a=78)<;>cases decide (a=77)<;>rfl
theorem rE:∀{F:List Field}{L:List (Int×Int)},mt F L=true->∀f∈F,ua f.name=true
 |[],_,_,f,hf=>by cases hf
 |g::F,[],h,_,_=>by cases h
 |g::F,(c,w)::L,h,f,hf=>by
  simp only[mt,Bool.and_eq_true,decide_eq_true_eq] at h;rcases List.mem_cons.1 hf with rfl|hf
  rw[h.1];exact h.2.2.2.1;exact rE h.2.2.2.2.2 f hf
theorem vA(x:aG):∀(F:List Field)(L:List (Int×Int))(c:aG),mt F L=true->(∀f∈F,f65 c f.name=f65 x f.name)->c.op=0->goF x F c=fl L c.d c.a c.b c.n c.m c.to
 |[],[],c,_,_,h=>by rw[goF,fl,h];rfl
 |[],_::_,c,h,_,_=>by cases h
 |_::_,[],c,h,_,_=>by cases h
 |f::F,(ch,w)::L,c,h,hc,h0=>by
  have hs:=rE h;simp only[mt,Bool.and_eq_true,decide_eq_true_eq] at h;obtain⟨h1,h2,h3,h4,h5,h6⟩:=h;have hne:∀g∈F,g.name≠ch:=λg hg=>by
   have:=List.all_eq_true.1 h5 g hg;simpa using this
  have ih:=vA x F L (f66 c f.name 0) h6 (λg hg=>by
   rw[f65_set (hs f List.mem_cons_self) (hs g (List.mem_cons_of_mem _ hg)) (by rw[h1];exact hne g hg)];exact hc g (List.mem_cons_of_mem _ hg)) (by rw[f66_op];exact h0)
  rw[goF,ih,<-hc f List.mem_cons_self,h2,h3,h1];rcases gQ h4 with rfl|rfl|rfl|rfl|rfl|rfl<;>rfl
theorem f33_l1_eq(x:aG)(r:Row×Bool)(E:Bool)(hl:r.1.fields.length<9223372036854775808):∀(n i:Nat)(z:Int)(c:aG),z=(i:Int)->i<=r.1.fields.length->r.1.fields.length<n+i->
  f33_l1 x r (λo d a b n m t=>some (((decide (o=0))&&((decide (d=0))&&((decide (a=0))&&((decide (b=0))&&((decide (n=0))&&((decide (m=0))&&((decide (t=0))&&true)))))))&&E)) n z c.op c.d c.a c.b c.n c.m c.to=some (goF x (r.1.fields.drop i) c&&E)
 |0,i,z,c,_,_,h=>oM
 |n+1,i,z,c,hz,hi,h=>by
  subst hz;rw[f33_l1];by_cases hh:i<r.1.fields.length;rw[aV hh,goF,jb hh,cdT,aE hh,bnS,w1 hh hl];have ih:=f33_l1_eq x r E hl n (i+1) _ (f66 c (r.1.fields[i]).name 0) rfl oM oM;have ec:aG.mk c.op c.d c.a c.b c.n c.m c.to=c:=rfl;rw[ec,ih];generalize r.1.fields[i]=f;cases ((decide ((f65 x f.name)<f.lo))||(decide ((f65 x f.name)>f.hi)))<;>rfl;have e:i=r.1.fields.length:=oM;subst e;rw[gN,cdF,List.drop_eq_nil_of_le (Nat.le_refl _)];rfl
theorem f64_l1_eq(o:Int)(k:Option (Row×Bool))(hf:∀r∈f100,r.op≠o):∀(n i:Nat)(z:Int),z=(i:Int)->i<=f100.length->f100.length<n+i->f64_l1 o (λ_=>k) n z=k
 |0,i,z,_,_,h=>oM
 |n+1,i,z,hz,hi,h=>by
  subst hz;have h57:f100.length=57:=rfl;rw[f64_l1];by_cases hh:i<f100.length;rw[jb hh,cdT,aE hh,bnS,dcF (hf _ (List.getElem_mem hh)),cdF,w1 hh oM];exact f64_l1_eq o k hf n (i+1) _ rfl oM oM;have e:i=f100.length:=oM;subst e;rw[gN,cdF]
theorem f100_ops:(f100.all λr=>decide (1<=r.op)&&decide (r.op<=57))=true:=by decide+kernel
theorem f64_ok:∀k,k<57->(match f64 ((k:Nat)+1:Int) with|some r=>r.2&&(Nat.blt r.1.fields.length 100&&mt r.1.fields (kj ((k:Nat)+1:Int)))|none=>false)=true:=by decide+kernel
theorem f64_out{o:Int}(h:¬(1<=o/\o<=57)):f64 o=some ((Row.mk 0 ByteArray.empty []),false):=by unfold f64;rw[aw];refine f64_l1_eq o _ (λr hr he=>?_) _ 0 0 rfl (Nat.zero_le _) (by have h57:f100.length=57:=rfl;omega);have:=List.all_eq_true.1 f100_ops r hr;simp only[Bool.and_eq_true,decide_eq_true_eq] at this;omega
theorem xd:kj 37=[(78,107),(77,115)]:=by decide+kernel
theorem f33_eq(x:aG):f33 x=some (gy x):=by
 unfold f33 gy;by_cases h:1<=x.op/\x.op<=57;obtain⟨k,hk⟩:∃k:Nat,x.op=(k:Int)+1:=⟨(x.op - 1).toNat,oM⟩;have hf:=f64_ok k oM;rw[<-hk] at hf;cases hr:f64 x.op with
 |none=>rw[hr] at hf;cases hf
 |some r=>
  rw[hr] at hf;dsimp only at hf;simp only[Bool.and_eq_true] at hf;obtain⟨h2,h3,h4⟩:=hf;have hlen:r.1.fields.length<100:=by simpa[Nat.blt_eq] using h3
  rw[bnS,h2,Bool.not_true,cdF,aw];have key:=f33_l1_eq x r (((!decide (x.op=27))||(decide (x.n<=x.m)))&&(((!decide (x.op=37))||(!decide (x.n=6)))||(decide (x.m=0)))) oM 9223372036854775808 0 0 (aG.mk 0 x.d x.a x.b x.n x.m x.to) rfl (Nat.zero_le _) oM;rw[List.drop_zero,vA x _ _ _ h4 (λf hf=>by
   have:=rE h4 f hf;rcases gQ this with e|e|e|e|e|e<;>rw[e]<;>rfl) rfl] at key
  have e1:decide (1<=x.op)=true:=dcT h.1;have e2:decide (x.op<=57)=true:=dcT h.2;have e3:decide (x.n>x.m)= !(decide (x.n<=x.m)):=by by_cases hh:x.n<=x.m;rw[dcT hh,dcF oM];rfl;rw[dcF hh,dcT oM];rfl
  rw[e1,e2,e3];refine Eq.trans ?_ (key.trans ?_);simp only[Bool.and_assoc];dsimp only;congr 1;cases hfl:fl (kj x.op) x.d x.a x.b x.n x.m x.to;simp;by_cases h37:x.op=37;have hn:6<=x.n/\x.n<=7:=by rw[h37,xd] at hfl;simp only[fl,rng,f150] at hfl;simp at hfl;omega
  have:IntKind.u8.wrap x.n=x.n:=by rcases(show x.n=6\/x.n=7 by omega) with e|e<;>rw[e]<;>rfl
  rw[this];cases decide (x.op=27)<;>cases decide (x.n<=x.m)<;>cases decide (x.op=37)<;>cases decide (x.n=6)<;>cases decide (x.m=0)<;>rfl;rw[dcF h37];cases decide (x.op=27)<;>cases decide (x.n<=x.m)<;>cases decide (x.n=6)<;>cases decide (x.m=0)<;>simp
 rw[f64_out h];have e2:(decide (1<=x.op)&&decide (x.op<=57))=false:=by rw[Bool.and_eq_false_iff];simp only[decide_eq_false_iff_not];omega
 rw[e2];rfl
theorem f34_eq(t:ah)(a m:Int)(h0:0<=a)(h1:0<=m)(h2:a<=65536)(h3:m<=65536)(hl:t.insns.length<=65536):f34 t a m=some (decide ((i64.wrap (a+m))<=(t.insns.length:Int))&&(bQ t.insns a (i64.wrap (a+m))).all (λy=>decide (y.op=29))):=by
 unfold f34;rw[w64 oM oM];by_cases h:a+m<=(t.insns.length:Int);rw[dcT h,dcF (show¬a+m>(t.insns.length:Int) by omega),cdF,aw];have hL:(t.insns.take (a+m).toNat).length=(a+m).toNat:=by grind
 have:=yO (t.insns.take (a+m).toNat) (f34_l1 t a m λ_=>some true) (some true) (λy=>decide (y.op=29)) oM (λn i hi=>by
  rw[f34_l1,w64 (x:=a+m) oM oM,dcT (show(i:Int)<a+m by omega),cdT,aE oM,bnS,w1 (n:=t.insns.length) oM oM,List.getElem_take];generalize t.insns[i]=y;cases decide (y.op=29)<;>rfl) (λn=>by
  rw[f34_l1,w64 (x:=a+m) oM oM,dcF (show¬(((t.insns.take (a+m).toNat).length:Nat):Int)<a+m by omega),cdF]) 9223372036854775808 a.toNat a oM oM oM
 grind [bQ,List.drop_take];grind
theorem f35_eq(t:ah)(a n:Int)(hl:∀x∈t.tasks,x.entries.length<9223372036854775808):∃e,f35 t a n=some (e,(mQ t a n).2)/\((mQ t a n).2=true->(∃x∈t.tasks,e∈x.entries)/\i64.wrap (i64.wrap ((List.length e.ins:Int)+(List.length e.outs:Int))+1)=(mQ t a n).1):=by
 unfold f35 mQ;by_cases h:0<=a/\a<t.tasks.length;obtain⟨y,hy,hym⟩:=aI h;rw[hy,dcF (show¬a<0 by omega),dcF (show¬a>=(t.tasks.length:Int) by omega)];dsimp only[bnS];by_cases h2:0<=n/\n<y.entries.length;obtain⟨e,he,hem⟩:=aI h2;grind;rw[dp h2];by_cases h3:n<0;rw[dcT h3];exact⟨_,rfl,λh=>by cases h⟩;simp_all;rw[dp h];have:(decide (a<0)||decide (a>=(t.tasks.length:Int)))=true:=by grind
 rw[this];exact⟨_,rfl,λh=>by cases h⟩
theorem f36_eq(t:ah)(p n:Int):f36 t p n=some (t8 t p n):=by unfold f36 t8;by_cases h:0<=p/\p<t.prots.length;obtain⟨y,hy,_⟩:=aI h;grind;grind [dp]
theorem flds5:kj 5=[(68,114),(65,114),(66,108),(78,111),(77,115)]:=by decide+kernel
theorem flds6:kj 6=[(68,114),(65,114),(66,108),(78,111),(77,115)]:=by decide+kernel
theorem yE:kj 43=[(68,114),(78,101),(77,113)]:=by decide+kernel
theorem yD:kj 52=[(65,112),(66,101),(78,98),(84,115)]:=by decide+kernel
theorem vw{x:aG}(h:gy x=true)(ho:x.op=5\/x.op=6):0<=x.b:=by grind [gy,kj,flds5,flds6,fl,rng,f150]
theorem yA{x:aG}(h:gy x=true)(ho:x.op=43): -1<=x.m:=by grind [gy,yE,fl,rng,f150]
theorem vx{x:aG}(h:gy x=true)(ho:x.op=52):0<=x.to:=by grind [gy,yD,fl,rng,f150]
theorem oc{t:ah}(hT:dX t=true){x:bK}(hx:x∈t.tasks){e:cq}(he:e∈x.entries):(e.ins.length:Int)<=8/\(e.outs.length:Int)<=8:=by grind [dX,eo,eG,dU]
theorem rT{t:ah}(hT:dX t=true):∀x∈t.tasks,x.entries.length<9223372036854775808:=by grind [dX,eo]
theorem f20_eq(t:ah)(x:aG)(hT:dX t=true)(hl:t.insns.length<=65536):f20 t x=some (fR t x):=by
 unfold f20 fR;rw[f33_eq,bnS];cases hm:gy x;rfl;rw[Bool.not_true,cdF,Bool.true_and];simp only[aw,f36_eq];have hat:f28 t x.to=at1 t x.to:=rfl;rw[hat,f26_eq t x.n x.m 1 oM];cases decide (x.op=3);cases decide (x.op=4);cases h5:decide (x.op=5);cases h6:decide (x.op=6);cases decide (x.op=29);cases decide (x.op=30);cases decide (x.op=31);cases h32:decide (x.op=32);cases decide (x.op=33);cases decide (x.op=44);cases decide (x.op=45);cases decide (x.op=46);cases decide (x.op=56);cases decide (x.op=50);obtain⟨e,he,hn⟩:=f35_eq t x.a x.b (rT hT);rw[he];cases decide (x.op=49);cases h52:decide (x.op=52);cases decide (x.op=53);cases decide (x.op=55);cases decide (x.op=54);cases h43:decide (x.op=43);rfl;have:=yA hm (of_decide_eq_true h43);have e:decide (x.m= -1)=decide (x.m<0):=decide_eq_decide.2 oM;rw[e];cases decide (x.m<0)<;>rfl;rfl;rfl;rfl;have:=vx hm (of_decide_eq_true h52);have e:at1 t x.to=decide (x.to<(t.insns.length:Int)):=by unfold at1;rw[dcT (show x.to>=0 from this),Bool.true_and]
 rw[e];rfl;cases hs:(mQ t x.a x.b).2;rfl;obtain⟨⟨y,hy,hem⟩,hw⟩:=hn hs;have:=oc hT hy hem;dsimp only[cdT,cdF,bnS,Bool.or_false,Bool.true_and];rw[hw,f26_eq t x.n 0 _ (by
  rw[<-hw,w64 (x:=(List.length e.ins:Int)+(List.length e.outs:Int)) oM oM,w64 oM oM];omega)]
 rfl;rfl;rfl;rfl;rfl;rfl;rfl;obtain⟨a1,a2,a3,a4⟩:=o8 hm (of_decide_eq_true h32);rw[f34_eq t x.to x.m a1 oM oM a4 hl];rfl;rfl;rfl;rfl;grind [f26_eq,vw];grind [f26_eq,vw];rfl;rfl
theorem oT:∀(N:Nat)(L:List Nat),L.Nodup->(∀x∈L,x<N)->L.length<=N
 |0,[],_,_=>Nat.le_refl _
 |0,x::L,_,h=>absurd (h x List.mem_cons_self) (Nat.not_lt_zero _)
 |N+1,L,hn,h=>by
  by_cases hm:N∈L;have h1:=List.length_erase_of_mem hm;have h2:=oT N (L.erase N) (hn.erase N) (λx hx=>by
   have h3:=h x (List.mem_of_mem_erase hx);have h4:x≠N:=λe=>by subst e;exact hn.not_mem_erase hx
   omega)
  omega;have:=oT N L hn (λx hx=>by
   have h3:=h x hx;have h4:x≠N:=λe=>hm (e▸hx);omega)
  omega
def szS(L:List Obj):Nat:=(L.map λo=>o.size.toNat).sum
theorem oI:∀(L:List Obj)(a:Int),(∀o∈L,1<=o.size/\o.size<=16384)->0<=a->a+16384*(L.length:Int)<=9223372036854775807->ro a L=a+(szS L:Int)
 |[],a,_,_,_=>by simp[ro,szS]
 |o::L,a,h,h0,h1=>by
  have ho:=h o List.mem_cons_self;have hl:((o::L).length:Int)=(L.length:Int)+1:=sM;have ih:=oI L (a+o.size) (λx hx=>h x (List.mem_cons_of_mem _ hx)) oM oM;grind [ro,w64,szS]
theorem jW{L:List Obj}{i:Nat}(h:i<L.length):szS (L.take (i+1))=szS (L.take i)+L[i].size.toNat:=by grind [szS,List.take_succ_eq_append_getElem]
theorem mq{L:List Obj}:∀{i j:Nat},i<=j->szS (L.take i)<=szS (L.take j):=by
 intro i j h;induction h with
 |refl=>exact Nat.le_refl _
 |step h ih=>grind [jW,List.take_of_length_le]
def pos(os:List Obj)(x:dO):Nat:=szS (os.take x.o.toNat)+x.slot.toNat
theorem jH{os:List Obj}(ho:∀o∈os,1<=o.size/\o.size<=16384){x:dO}(h:dA os x=true):0<=x.o/\x.o.toNat<os.length/\0<=x.slot/\∀h:x.o.toNat<os.length,x.slot.toNat<os[x.o.toNat].size.toNat:=by unfold dA at h;rw[Bool.and_eq_true] at h;obtain⟨y,hy,h1,h2⟩:=eS h.1;have hb:=db hy;grind [w64,aE]
theorem u0{os:List Obj}(ho:∀o∈os,1<=o.size/\o.size<=16384){x:dO}(h:dA os x=true):pos os x<szS os:=by obtain⟨_,h1,_,h2⟩:=jH ho h;have h3:=h2 h1;have h4:=jW h1;have h5:=mq (L:=os) (i:=x.o.toNat+1) (j:=os.length) oM;grind [pos]
theorem wL{os:List Obj}(ho:∀o∈os,1<=o.size/\o.size<=16384){x y:dO}(hx:dA os x=true)(hy:dA os y=true)(h:pos os x=pos os y):x.o=y.o/\x.slot=y.slot:=by
 obtain⟨a0,a1,a2,a3⟩:=jH ho hx;obtain⟨b0,b1,b2,b3⟩:=jH ho hy;have a4:=a3 a1;have b4:=b3 b1;have a5:=jW a1;have b5:=jW b1;unfold pos at h;rcases Nat.lt_trichotomy x.o.toNat y.o.toNat with hlt|heq|hgt
 have:=mq (L:=os) (i:=x.o.toNat+1) (j:=y.o.toNat) hlt;omega;rw[heq] at h;omega;have:=mq (L:=os) (i:=y.o.toNat+1) (j:=x.o.toNat) hgt;omega
theorem iC{os:List Obj}(ho:∀o∈os,1<=o.size/\o.size<=16384):∀(r P:List dO),gP os P r=true->(∀x∈P,dA os x=true)->(P.map (pos os)).Nodup->((P++r).map (pos os)).Nodup/\∀x∈P++r,dA os x=true
 |[],P,_,h1,h2=>by rw[List.append_nil];exact⟨h2,h1⟩
 |x::r,P,h,h1,h2=>by
  rw[gP] at h;simp only[Bool.and_eq_true] at h;obtain⟨⟨hx,hP⟩,hr⟩:=h;have ih:=iC ho r (P++ [x]) hr (λy hy=>by
   rcases List.mem_append.1 hy with hy|hy
   exact h1 y hy;rw[List.mem_singleton] at hy;subst hy;exact hx) (by
   rw[List.map_append,List.nodup_append];refine⟨h2,sM,λa ha b hb=>?_⟩;simp only[List.map_cons,List.map_nil,List.mem_singleton] at hb;subst hb;intro e;obtain⟨y,hy,rfl⟩:=List.mem_map.1 ha;have hi:=wL ho (h1 y hy) hx e;have:=List.all_eq_true.1 hP y hy;unfold neI at this;rw[dcT hi.1,dcT hi.2] at this;cases this)
  rw[List.append_assoc,List.singleton_append] at ih;exact ih
theorem kO{os:List Obj}(h:os.all (eI os)=true):∀o∈os,1<=o.size/\o.size<=16384:=by grind [eI]
theorem f14_eq(t:ah)(hl:t.inits.length<9223372036854775808)(hs:∀o∈t.objs,o.set_.length<9223372036854775808):f14 t=some (iy t):=by
 unfold f14 iy;cases h1:(decide ((t.objs.length:Int)>4096)||decide (t.excs<4))||decide (t.excs>64);have hol:(t.objs.length:Int)<=4096:=by simp_all
 rw[Bool.false_or,Bool.not_false,Bool.true_and];have hi:gP t.objs [] t.inits=dT t.objs [] t.inits:=by grind [kX]
 have core:f14_l1 t (λn111=>letk (λ(_:Unit)=>some (decide (n111<=65536))) λk122=>f14_l2 t k122 9223372036854775808 0) 9223372036854775808 0 0=some (t.objs.all (eI t.objs)&&(dT t.objs [] t.inits&&decide (ro 0 t.objs<=65536))):=by rw[f14_l1_eq t _ oM hs _ 0 0 0 rfl (Nat.zero_le _) oM,List.drop_zero];cases t.objs.all (eI t.objs);rfl;rw[cdT,aw,f14_l2_eq t _ hl hs _ 0 0 rfl (Nat.zero_le _) oM,List.drop_zero,List.take_zero,hi];grind
 by_cases h2:(t.inits.length:Int)>65536;rw[dcT h2,cdT];congr 1;cases ha:t.objs.all (eI t.objs);rfl;have ho:=kO ha;rw[Bool.true_and];cases hb:dT t.objs [] t.inits;rfl;rw[Bool.true_and];have hn:=iC ho t.inits [] (by rw[hi];exact hb) (λx hx=>by cases hx) List.nodup_nil;have hp:=oT (szS t.objs) (t.inits.map (pos t.objs)) hn.1 (λx hx=>by
  obtain⟨y,hy,rfl⟩:=List.mem_map.1 hx;exact u0 ho (hn.2 y hy))
 rw[List.length_map] at hp;have hS:=oI t.objs 0 ho oM oM;grind;grind [aw];rw[Bool.true_or];rfl
theorem f10_l1_eq(t:ah)(r:Option Bool)(hT:dX t=true)(hl:t.insns.length<=65536)(n:Nat)(hn:n=9223372036854775808):f10_l1 t (λ_=>r) n 0=bif t.insns.all (fR t) then r else some false:=by refine jo t.insns (f10_l1 t λ_=>r) r (fR t) n hn oM (λm i hi=>?_) (λm=>by rw[f10_l1,gN,cdF]);grind [f10_l1,jb,aE,w1,f20_eq,fR]
theorem f10_eq(t:ah)(h:Sz t)(ha:SzA t):f10 t=some (MayB t):=by
 unfold f10 MayB;cases h1:decide ((t.insns.length:Int)<1)||decide ((t.insns.length:Int)>65536);have hol:(1:Int)<=t.insns.length/\(t.insns.length:Int)<=65536:=by simp_all
 rw[cdF,f14_eq t h.inits h.sets,f15_eq,f16_eq t h.checks,f18_eq,f19_eq];cases hO:iy t;simp;cases hT:dX t;simp;have ho:∀o∈t.objs,1<=o.size/\o.size<=16384:=by unfold iy at hO;simp only[Bool.and_eq_true] at hO;exact kO hO.2.1
 rw[f17_eq t ha (λo y hy=>by have:=ho y (cO hy);omega)];obtain⟨x,hx,_⟩:=aI (L:=t.insns) (i:=(t.insns.length:Int) - 1) oM;rw[aw,w64 oM oM,f10_l1_eq t _ hT oM _ rfl];unfold sO;rw[hx];dsimp only[bnS];have e:o4 x=(((decide (x.op=29)||decide (x.op=33))||decide (x.op=34))||decide (x.op=57)):=by grind [o4]
 rw[e];generalize(((decide (x.op=29)||decide (x.op=33))||decide (x.op=34))||decide (x.op=57))=b0;generalize t.insns.all (fR t)=b9;cases ir t;simp;cases iL t (-1) t.checks;simp;cases lF t;simp;grind;rfl
abbrev Pl(a:Int):Prop:= -4611686018427387904<=a/\a<4611686018427387904
def jmp(x:aG):Bool:=((decide (x.op>=29))&&(decide (x.op<=32)))||(decide (x.op=52))
theorem mz{t:ah}{a:Int}(h:at1 t a=true)(hl:t.insns.length<=65536):Pl a:=by have:=fx.1 h;constructor<;>omega
theorem qq{t:ah}:∀{L P:List bi},gp t P L=true->∀x∈L,fH t x=false
 |[],_,_,x,hx=>by cases hx
 |y::r,P,h,x,hx=>by
  rw[gp] at h;simp only[Bool.and_eq_true,Bool.not_eq_true'] at h;rcases List.mem_cons.1 hx with rfl|hx
  exact h.1.1;exact qq h.2 x hx
theorem sK{t:ah}:∀{L:List Loop}{m:List (Int×Bool)},jj t m L=true->∀x∈L,rL t x=true
 |[],_,_,x,hx=>by cases hx
 |y::r,P,h,x,hx=>by
  rw[jj] at h;simp only[Bool.and_eq_true] at h;rcases List.mem_cons.1 hx with rfl|hx
  exact h.1.2;exact sK h.2 x hx
theorem s8{t:ah}:∀{L:List c4}{last:Int},iL t last L=true->∀x∈L,chk t x.at_=true
 |[],_,_,x,hx=>by cases hx
 |y::r,P,h,x,hx=>by
  rw[iL] at h;simp only[Bool.and_eq_true] at h;rcases List.mem_cons.1 hx with rfl|hx
  exact h.1.1.2;exact s8 h.2 x hx
theorem qH{t:ah}{a:Int}(h:chk t a=true):∃x,idx t.insns a=some x/\(x.op=27\/x.op=28):=by
 unfold chk at h;cases hx:idx t.insns a with
 |none=>rw[hx] at h;cases h
 |some x=>rw[hx] at h;simp only[Bool.or_eq_true,decide_eq_true_eq] at h;exact⟨x,rfl,h⟩
theorem rW{t:ah}{a:Int}(h:chk t a=true):0<=a/\a<t.insns.length:=by obtain⟨x,hx,_⟩:=qH h;exact db hx
theorem ta{t:ah}:∀(L:List c4)(last:Int),iL t last L=true->-1<=last->last<t.insns.length->(L.length:Int)+last+1<=t.insns.length
 |[],last,_,h1,h2=>by simp;omega
 |x::r,last,h,h1,h2=>by
  simp only[iL,Bool.and_eq_true,decide_eq_true_eq] at h;have hx:=rW h.1.1.2;have:=ta r x.at_ h.2 oM hx.2;simp;omega
theorem tX{t:ah}(hm:iy t=true):t.inits.length<=65536:=by
 unfold iy at hm;simp only[Bool.and_eq_true,Bool.not_eq_true',Bool.or_eq_false_iff,decide_eq_false_iff_not,decide_eq_true_eq] at hm;obtain⟨h1,h2,h3,h4⟩:=hm;have ho:=kO h2;have hi:gP t.objs [] t.inits=true:=by rw[<-h3];exact kX t.objs t.inits []
 obtain⟨n1,n2⟩:=iC ho t.inits [] hi sM sM;rw[List.nil_append] at n1 n2;have hp:=oT (szS t.objs) _ n1 (λx hx=>by
  obtain⟨y,hy,rfl⟩:=List.mem_map.1 hx;exact u0 ho (n2 y hy))
 rw[List.length_map] at hp;rw[oI t.objs 0 ho oM oM] at h4;omega
structure Bdt(t:ah):Prop where
 n:1<=t.insns.length/\t.insns.length<=65536
 handlers:t.handlers.length<=4096
 loops:t.loops.length<=4096
 selects:t.selects.length<=1024
 alts:∀x∈t.selects,x.alts.length<=16
 lists:t.lists.length<=4096
 list:∀l∈t.lists,l.length<=32
 objs:t.objs.length<=4096
 sets:∀o∈t.objs,o.set_.length<=4096
 inits:t.inits.length<=65536
 tasks:t.tasks.length<=32
 entries:∀x∈t.tasks,x.entries.length<=8
 forms:∀x∈t.tasks,∀e∈x.entries,e.ins.length<=8/\e.outs.length<=8
 prots:t.prots.length<=32
 bars:∀p∈t.prots,p.barriers.length<=8/\∀b∈p.barriers,l4 t p.barriers.length b=true
 checks:t.checks.length<=65536
 plI:∀x∈t.insns,jmp x=true->Pl x.to
 plH:∀x∈t.handlers,Pl x.from_/\Pl x.to/\Pl x.at_
 okH:∀x∈t.handlers,x.from_<x.to
 plL:∀x∈t.loops,Pl x.head/\Pl x.back
 plA:∀x∈t.selects,∀a∈x.alts,Pl a.at_
 plE:∀x∈t.selects,Pl x.else_
 plK:∀x∈t.tasks,Pl x.at_
 plC:∀x∈t.checks,Pl x.at_
theorem yx{t:ah}{x:aG}(hf:fR t x=true)(hl:t.insns.length<=65536)(hj:jmp x=true):Pl x.to:=by
 unfold fR at hf;rw[Bool.and_eq_true] at hf;obtain⟨hm,hf⟩:=hf;unfold jmp at hj;simp only[Bool.or_eq_true,Bool.and_eq_true,decide_eq_true_eq] at hj;by_cases h32:x.op=32;have:=o8 hm h32;constructor<;>omega
 ·by_cases h52:x.op=52;have h0:=vx hm h52;rw[h52] at hf;simp at hf;constructor<;>omega
  ·have h3:x.op=29\/x.op=30\/x.op=31:=oM;rcases h3 with h3|h3|h3
   all_goals
    rw[h3] at hf;simp at hf;exact mz hf hl
theorem Bdt.of{t:ah}(hs:Sz t)(h:MayB t=true):Bdt t:=by
 have hv:=MayB.vt hs h;unfold MayB at h;simp only[Bool.and_eq_true,Bool.not_eq_true',Bool.or_eq_false_iff,decide_eq_false_iff_not,List.all_eq_true] at h;obtain⟨hn,hlast,hobj,htask,hlist,hprot,hsel,hhdl,hlp,hck,hfit⟩:=h;have hl:t.insns.length<=65536:=oM;have htask':=htask;unfold dX at htask;unfold jG at hlist;unfold ir at hprot;unfold lF at hsel;unfold lR at hhdl;unfold rK at hlp;simp only[Bool.and_eq_true,Bool.not_eq_true',Bool.or_eq_false_iff,decide_eq_false_iff_not,decide_eq_true_eq,List.all_eq_true] at htask hlist hprot hsel hhdl hlp;have hH:=qq hhdl.2;have hL:=sK hlp.2;have hC:=s8 hck;refine⟨hv.n,oM,oM,oM,?_,oM,?_,hv.objs,λo ho=>by have:=(hv.o ho).2.2.2;omega,tX hobj,oM,?_,λx hx e he=>by have:=oc htask' hx he;omega,oM,?_,?_,λx hx hj=>yx (hfit x hx) hl hj,?_,?_,?_,?_,?_,?_,?_⟩;intro x hx;have:=hsel.2 x hx;unfold jY at this;simp only[Bool.and_eq_true,Bool.not_eq_true',Bool.or_eq_false_iff,decide_eq_false_iff_not] at this;omega;intro l hl;have:=hlist.2 l hl;unfold mG at this;simp only[Bool.and_eq_true,Bool.not_eq_true',decide_eq_false_iff_not] at this;omega;intro x hx;have:=htask.2 x hx;unfold eo at this;simp only[Bool.and_eq_true,Bool.not_eq_true',Bool.or_eq_false_iff,decide_eq_false_iff_not] at this;omega;intro p hp;have:=hprot.1 p hp;unfold gM at this;simp only[Bool.and_eq_true,Bool.not_eq_true',Bool.or_eq_false_iff,decide_eq_false_iff_not,List.all_eq_true] at this;exact⟨oM,this.2⟩;have:=ta t.checks (-1) hck oM oM;omega;intro x hx;have:=hH x hx;unfold fH at this;simp only[Bool.or_eq_false_iff,Bool.not_eq_false',decide_eq_false_iff_not] at this;have h2:=mz this.1.2 hl;exact⟨⟨oM,oM⟩,⟨oM,oM⟩,h2⟩;intro x hx;have:=hH x hx;unfold fH at this;simp only[Bool.or_eq_false_iff,Bool.not_eq_false',decide_eq_false_iff_not] at this;omega;intro x hx;have:=hL x hx;unfold rL at this;simp only[Bool.and_eq_true,Bool.or_eq_false_iff,Bool.not_eq_true',Bool.not_eq_false',decide_eq_false_iff_not] at this;have h2:=fx.1 this.1.1.2;exact⟨⟨oM,oM⟩,⟨oM,oM⟩⟩;intro x hx a ha;have:=hsel.2 x hx;unfold jY at this;simp only[Bool.and_eq_true,List.all_eq_true] at this;have:=this.2 a ha;unfold gz at this;simp only[Bool.and_eq_true] at this;exact mz this.1.1 hl;intro x hx;have:=hsel.2 x hx;unfold jY at this;simp only[Bool.and_eq_true,Bool.not_eq_true',Bool.or_eq_false_iff,Bool.and_eq_false_iff,Bool.not_eq_false',decide_eq_true_eq] at this;rcases this.1.2 with h1|h1
 constructor<;>omega;exact mz h1 hl;intro x hx;have:=htask.2 x hx;unfold eo at this;simp only[Bool.and_eq_true,Bool.not_eq_true',Bool.or_eq_false_iff,Bool.not_eq_false'] at this;exact mz this.1.1.1.1.2 hl;intro x hx;have:=rW (hC x hx);constructor<;>omega
theorem vj{α σ ρ:Type}(xs:List α)(F:Nat->Int->σ->Option ρ)(K:σ->Option ρ)(P:Nat->σ->Prop)
  (h0:∀n (i:Nat)(h:i<xs.length) s,P i s->∃s',F (n+1) (i:Int) s=F n ((i+1:Nat):Int) s'/\P (i+1) s')
  (h1:∀n s,P xs.length s->F (n+1) (xs.length:Int) s=K s):∀(n i:Nat)(s:σ),i<=xs.length->xs.length<n+i->P i s->∃s',F n (i:Int) s=K s'/\P xs.length s'
 |0,i,s,_,h,_=>oM
 |n+1,i,s,hi,h,hp=>by
  by_cases hh:i<xs.length;obtain⟨s',e,hp'⟩:=h0 n i hh s hp;obtain⟨s'',e',hp''⟩:=vj xs F K P h0 h1 n (i+1) s' oM oM hp';grind;grind
theorem ltT{i n:Nat}(h:i<n):decide ((i:Int)<(n:Int))=true:=dcT oM
theorem ltF{n:Nat}:decide ((n:Int)<(n:Int))=false:=dcF oM
theorem wN{i:Nat}(hl:i<9223372036854775807):i64.wrap ((i:Int)+1)=((i+1:Nat):Int):=by rw[w64 oM oM];push_cast;rfl
theorem fuelN(n:Nat):n<(Int.toNat ((n:Int) - 0)+1)+0:=sM
def Sat{α:Type}(o:Option α)(Q:α->Prop):Prop:=∃r,o=some r/\Q r
theorem Sat.pure{α:Type}{a:α}{Q:α->Prop}(h:Q a):Sat (some a) Q:=⟨a,rfl,h⟩
theorem Sat.bind{α β:Type}{o:Option α}{f:α->Option β}{P:α->Prop}{Q:β->Prop}(h:Sat o P)(hf:∀x,P x->Sat (f x) Q):Sat (o.bind f) Q:=by obtain⟨r,h1,h2⟩:=h;grind
theorem Sat.cond{α:Type}{c:Bool}{a b:Option α}{Q:α->Prop}(h1:c=true->Sat a Q)(h2:c=false->Sat b Q):Sat (bif c then a else b) Q:=by grind
theorem Sat.guard{α:Type}{c:Bool}{a:Option α}{Q:α->Prop}(h1:c=true)(h2:Sat a Q):Sat (aH c a) Q:=by rw[bR _ h1];exact h2
theorem Sat.letk{α κ:Type}{k:κ}{f:κ->Option α}{Q:α->Prop}(P:κ->Prop)(hk:P k)(hf:∀k',P k'->Sat (f k') Q):Sat (letk k f) Q:=hf k hk
theorem Sat.idx{α:Type}{L:List α}{i:Int}(h:0<=i/\i<L.length):Sat (idx L i) (λx=>idx L i=some x):=by obtain⟨x,hx,_⟩:=aI h;exact⟨x,hx,hx⟩
def I6(v:aa):Prop:= -9223372036854775808<=v.lo/\v.hi<=9223372036854775807
def Ne(v:aa):Prop:=v.lo<=v.hi/\I6 v
theorem wI(x:Int): -9223372036854775808<=i64.wrap x/\i64.wrap x<=9223372036854775807:=by rw[IntKind.wrap_i64];omega
def Li(v p:aa):Prop:=v.hi<v.lo\/(p.lo<=v.lo/\v.hi<=p.hi)
theorem f38_iff{v p:aa}:f38 v p=true↔Li v p:=by unfold f38 f71 Li;simp only[Bool.or_eq_true,Bool.and_eq_true,decide_eq_true_eq]
theorem f71_iff{v:aa}:f71 v=true↔v.hi<v.lo:=by unfold f71;rw[decide_eq_true_eq]
theorem f155_iff{v:aa}:f155 v=true↔v.hi<v.lo:=by unfold f155;rw[decide_eq_true_eq]
theorem f155_ne{v:aa}(hi:I6 v)(h:f155 v=false):Ne v:=by
 refine⟨?_,hi⟩;have:¬f155 v=true:=by rw[h];simp
 rw[f155_iff] at this;omega
def mn(a b:Int):Int:=if b<a then b else a
def mx(a b:Int):Int:=if b>a then b else a
theorem f152_l1_eq(L:List Int)(k:Int->Int->Option aa)(hl:L.length<9223372036854775807):∀(n i:Nat)(a b:Int),i<=L.length->L.length<n+i->f152_l1 L k n (i:Int) a b=k ((L.drop i).foldl mn a) ((L.drop i).foldl mx b)
 |0,i,_,_,_,h=>oM
 |n+1,i,a,b,hi,h=>by
  rw[f152_l1];by_cases hh:i<L.length;rw[ltT hh,cdT,aE hh,bnS,wN oM,f152_l1_eq L k hl n (i+1) _ _ oM oM,aV hh];rfl;grind
theorem f152_eq(a:Int)(L:List Int)(hl:L.length<9223372036854775807):f152 a L=some ⟨L.foldl mn a,L.foldl mx a⟩:=by unfold f152;have:=f152_l1_eq L (λa b=>some (aa.mk a b)) hl (Int.toNat ((L.length:Int) - 0)+1) 0 a a oM sM;exact this
def J(a b:aa):aa:=if a.hi<a.lo then(if b.hi<b.lo then⟨1,0⟩ else b) else if b.hi<b.lo then a else⟨mn (mn (mn a.lo a.hi) b.lo) b.hi,mx (mx (mx a.lo a.hi) b.lo) b.hi⟩
theorem f120_eq(a b:aa):f120 a b=some (J a b):=by unfold f120 J;by_cases ha:a.hi<a.lo;have e:=f71_iff.2 ha;rw[e,if_pos ha];by_cases hb:b.hi<b.lo;rw[f71_iff.2 hb,if_pos hb];rfl;grind [f71];grind [f71,f152_eq]
theorem gZ(a b:aa)(ha:Ne a)(hb:Ne b):Ne (J a b)/\(J a b).lo<=a.lo/\(J a b).lo<=b.lo/\a.hi<=(J a b).hi/\b.hi<=(J a b).hi/\((J a b).lo=a.lo\/(J a b).lo=b.lo)/\((J a b).hi=a.hi\/(J a b).hi=b.hi):=by
 unfold Ne I6 at*
 unfold J;rw[if_neg oM,if_neg oM];unfold mn mx;grind
theorem wo:∀(L:List aa)(a:aa),Ne a->(∀v∈L,Ne v)->Ne (L.foldl J a)
 |[],a,h,_=>h
 |v::L,a,h,hv=>wo L _ (gZ a v h (hv v List.mem_cons_self)).1 λx hx=>hv x (List.mem_cons_of_mem _ hx)
theorem f101_eq(a:aa)(L:List aa)(hl:L.length<9223372036854775807):f101 a L=some (L.foldl J a):=by
 unfold f101;have key:∀(n i:Nat)(x y:Int),i<=L.length->L.length<n+i->f101_l1 L (λc d=>some (aa.mk c d)) n (i:Int) x y=some ((L.drop i).foldl J ⟨x,y⟩):=by
  intro n;induction n with
  |zero=>omega
  |succ n ih=>intro i x y hi h;rw[f101_l1];by_cases hh:i<L.length;rw[ltT hh,cdT,aE hh,bnS,f120_eq,bnS,wN oM,ih (i+1) _ _ oM oM,aV hh];rfl;grind
 have:=key (Int.toNat ((L.length:Int) - 0)+1) 0 a.lo a.hi oM sM;exact this
theorem f101_e1(a b:aa):f101 a [b]=some (J a b):=f101_eq a [b] sM
def W(a b m:aa):aa:=⟨if a.lo<=b.lo then a.lo else if m.lo<=b.lo then m.lo else -9223372036854775808,if a.hi>=b.hi then a.hi else if m.hi>=b.hi then m.hi else 9223372036854775807⟩
theorem f133_eq(a b m:aa)(ha:Ne a)(hb:Ne b):f133 a b m=some (W a b m):=by
 unfold Ne at*
 have e1:f71 a=false:=by grind [f71_iff]
 have e2:f71 b=false:=by grind [f71_iff]
 unfold f133 W;rw[e1,e2];simp only[aw,Bool.or_self,cdF];by_cases h1:a.lo<=b.lo;rw[dcT h1,cdT,if_pos h1];by_cases h2:a.hi>=b.hi;grind;rw[dcF h2,cdF,if_neg h2];by_cases h3:m.hi>=b.hi;grind;rw[dcF h3,cdF,if_neg h3];rfl;rw[dcF h1,cdF,if_neg h1];by_cases h4:m.lo<=b.lo;rw[dcT h4,cdT,if_pos h4];by_cases h2:a.hi>=b.hi;grind;rw[dcF h2,cdF,if_neg h2];by_cases h3:m.hi>=b.hi;grind;rw[dcF h3,cdF,if_neg h3];rfl;rw[dcF h4,cdF,if_neg h4];by_cases h2:a.hi>=b.hi;rw[dcT h2,cdT,if_pos h2];rfl;rw[dcF h2,cdF,if_neg h2];by_cases h3:m.hi>=b.hi;rw[dcT h3,cdT,if_pos h3];rfl;rw[dcF h3,cdF,if_neg h3];rfl
theorem f154_spec(a b:aa):((f154 a b).lo<=(f154 a b).hi/\b.lo<=(f154 a b).lo/\(f154 a b).hi<=b.hi/\a.lo<=(f154 a b).lo/\(f154 a b).hi<=a.hi)\/f154 a b=⟨1,0⟩:=by unfold f154 f151;by_cases h:f71 (aa.mk (if b.lo>a.lo then b.lo else a.lo) (if b.hi<a.hi then b.hi else a.hi))=true;grind;grind [f71]
theorem f154_ne{a b:aa}(ha:Ne a)(h:f155 (f154 a b)=false):Ne (f154 a b)/\b.lo<=(f154 a b).lo/\(f154 a b).hi<=b.hi:=by
 unfold Ne I6 at*
 rcases f154_spec a b with⟨h1,h2,h3,h4,h5⟩|h1
 omega;rw[h1] at h;cases h
theorem f154_i6{a b:aa}(ha:Ne a):I6 (f154 a b):=by
 unfold Ne I6 at*
 rcases f154_spec a b with⟨h1,h2,h3,h4,h5⟩|h1
 omega;rw[h1];dsimp only;omega
theorem f158_i6{a:aa}(ha:Ne a):I6 (f158 a):=by
 unfold Ne I6 at*
 have w1:=wI (a.lo+1);have w2:=wI (a.hi - 1);grind [f158,aw]
theorem i6_1{a:Int}(h: -9223372036854775808<=a/\a<=9223372036854775807):I6 (f68 a):=h
theorem w6{a b:Int}(h: -9223372036854775808<=a)(h2:b<=9223372036854775807):I6 (f39 a b):=⟨h,h2⟩
abbrev I64(a:Int):Prop:= -9223372036854775808<=a/\a<=9223372036854775807
def OkF(f:Int->Int->Option (Int×Bool))(m:List Int):Prop:=∀x,∀y∈m,Sat (f x y) (λr=>I64 r.1)
theorem J_i6{a b:aa}(ha:I6 a)(hb:I6 b):I6 (J a b):=by unfold J;by_cases h1:a.hi<a.lo;grind [I6];grind [I6,mn,mx]
theorem f174_l2_ok(f:Int->Int->Option (Int×Bool))(m:List Int)(k:Int->Int->Option aa)(x:Int)(hl:m.length<9223372036854775807)(hf:OkF f m)(hk:∀a b,I6 ⟨a,b⟩->Sat (k a b) I6):∀(n i:Nat)(a b:Int),I6 ⟨a,b⟩->i<=m.length->m.length<n+i->Sat (f174_l2 f m k x n (i:Int) a b) I6
 |0,i,_,_,_,_,h=>oM
 |n+1,i,a,b,hab,hi,h=>by
  rw[f174_l2];by_cases hh:i<m.length;rw[ltT hh,cdT,aE hh,bnS];refine Sat.bind (hf x m[i] (List.getElem_mem hh)) λr hr=>Sat.cond (λ_=>Sat.pure ⟨Int.le_refl _,Int.le_refl _⟩) λ_=>?_;rw[f152_eq _ _ sM,bnS,f120_eq,bnS,wN oM];exact f174_l2_ok f m k x hl hf hk n (i+1) _ _ (J_i6 hab (show I6 ⟨r.1,r.1⟩ from hr)) oM oM;grind
theorem f174_ok(f:Int->Int->Option (Int×Bool))(l m:List Int)(hl:l.length<9223372036854775807)(hm:m.length<9223372036854775807)(hf:OkF f m):Sat (f174 f l m) I6:=by
 unfold f174;have key:∀(n i:Nat)(a b:Int),I6 ⟨a,b⟩->i<=l.length->l.length<n+i->Sat (f174_l1 f l m (λc d=>some (aa.mk c d)) n (i:Int) a b) I6:=by
  intro n;induction n with
  |zero=>omega
  |succ n ih=>intro i a b hab hi h;rw[f174_l1];by_cases hh:i<l.length;rw[ltT hh,cdT,aw,aE hh,bnS];exact f174_l2_ok f m _ _ hm hf (λa b hab=>by rw[wN oM];exact ih (i+1) a b hab oM oM) _ 0 a b hab oM sM;grind [Sat.pure]
 exact key _ 0 _ _ (by unfold I6 f151;dsimp only;omega) oM sM
theorem iw(g:Int->Int->Int×Bool)(m:List Int)(hg:∀x y,I64 (g x y).1):OkF (λx y=>some (g x y)) m:=λx y _=>Sat.pure (hg x y)
theorem f175_i(x y:Int):I64 (f175 x y).1:=wI _
theorem f176_i(x y:Int):I64 (f176 x y).1:=wI _
theorem f177_i(x y:Int):I64 (f177 x y).1:=by unfold f177;cases (!((decide (x<0))==(decide (y<0))))<;>exact wI _
theorem f179_ok(b:aa):∃l,f179 b=some l/\l.length<=4/\∀y∈l,y≠0:=by
 unfold f179;have key:∀(n i:Nat)(l:List Int),i<=4->4<n+i->l.length<=i->(∀y∈l,y≠0)->∃l',f179_l1 b (λl=>some l) n (i:Int) l=some l'/\l'.length<=4/\∀y∈l',y≠0:=by
  intro n;induction n with
  |zero=>omega
  |succ n ih=>
   intro i l hi h hl hy;rw[f179_l1];by_cases hh:i<4;rw[show((List.length [b.lo,(-1),1,b.hi]:Nat):Int)=((4:Nat):Int) from rfl,ltT hh,cdT,aw,aE (L:=[b.lo,(-1),1,b.hi]) (show i< [b.lo,(-1),1,b.hi].length from hh),bnS,wN oM];generalize[b.lo,(-1),1,b.hi][i]'(show i< [b.lo,(-1),1,b.hi].length from hh)=x;cases hc:(!decide (x=0))&&f40 b x with
   |false=>rw[cdF];exact ih (i+1) l oM oM oM hy
   |true=>rw[cdT,bR _ (mg oM (by simp;omega))];refine ih (i+1) _ oM oM (by simp;omega) λy hy2=>?_;grind
   grind
 exact key 5 0 [] oM oM sM sM
theorem f189_ok(l:List Bool)(hl:l.length<9223372036854775807):∃r,f189 l=some r:=by
 unfold f189;have key:∀(n i:Nat),i<=l.length->l.length<n+i->∃r,f189_l1 l (λ_=>some false) n (i:Int)=some r:=by
  intro n;induction n with
  |zero=>intro i _ h;omega
  |succ n ih=>intro i hi h;rw[f189_l1];by_cases hh:i<l.length;grind [ltT,aE,wN];rw[dcF oM,cdF];exact⟨_,rfl⟩
 exact key _ 0 oM sM
theorem f190_i(c:Bool):0<=f190 c/\f190 c<=1:=by cases c<;>simp[f190]
theorem f182_ok(op:Int)(a b:aa):Sat (f182 op a b) I6:=by
 unfold f182;have fin:∀c d:Bool,Sat (some (aa.mk (f190 c) (f190 d))) I6:=λc d=>Sat.pure (by have:=f190_i c;have:=f190_i d;unfold I6;dsimp only;omega);have f1:∀l:List Bool,l.length=2->Sat (f189 l) (λ_=>True):=λl hl=>by obtain⟨r,h⟩:=f189_ok l oM;exact⟨r,h,trivial⟩
 refine Sat.cond (λ_=>Sat.bind (f1 _ rfl) λ_ _=>fin _ _) λ_=>Sat.cond (λ_=>Sat.bind (f1 _ rfl) λ_ _=>fin _ _) λ_=>Sat.cond (λ_=>Sat.bind (f1 _ rfl) λ_ _=>fin _ _) λ_=>Sat.cond (λ_=>Sat.bind (f1 _ rfl) λ_ _=>fin _ _) λ_=>Sat.cond (λ_=>Sat.bind (f1 _ rfl) λ_ _=>fin _ _) λ_=>Sat.bind (f1 _ rfl) λ_ _=>fin _ _
theorem nz_t{b:Int}(h:decide (b=0)=false):nz b=true:=by unfold nz;rw[h];rfl
theorem f192_ok(op a b:Int)(ho:op=13\/op=14\/op=15):Sat (f192 op a b) (λr=>I64 r.1):=by
 unfold f192;rcases ho with rfl|rfl|rfl
 exact Sat.pure (wI _);exact Sat.pure (wI _);exact Sat.pure (wI _)
theorem f183_ok(op:Int)(a b:aa)(ho:op=13\/op=14\/op=15):Sat (f183 op a b) I6:=by refine Sat.cond (λ_=>Sat.pure ⟨Int.le_refl _,Int.le_refl _⟩) λ_=>Sat.bind (f174_ok _ _ _ sM sM λx y _=>?_) λr hr=>Sat.pure hr;grind [f191,Sat.bind,f192_ok,Sat.pure]
theorem sQ(a b:Int)(L:List Int)(ha:I64 a)(hb:I64 b)(hL:∀x∈L,I64 x):I6 ⟨L.foldl mn a,L.foldl mx b⟩:=by
 induction L generalizing a b with
 |nil=>exact⟨ha.1,hb.2⟩
 |cons x L ih=>grind [mn,mx]
theorem f184_ok(a:aa)(ha:Ne a):Sat (f184 a) I6:=by unfold Ne I6 at ha;have w1:=wI (0 - a.lo);have w2:=wI (0 - a.hi);refine Sat.cond (λ_=>Sat.pure ⟨Int.le_refl _,Int.le_refl _⟩) λ_=>Sat.cond (λ_=>?_) λ_=>?_;grind [f152_eq,Sat.pure,sQ,w1];grind [f152_eq,Sat.pure,sQ]
theorem f180_i(a b:aa)(ha:Ne a):I6 (f180 a b):=by grind [Ne,I6,f180,f188]
theorem f181_i(a b:aa)(ha:Ne a):I6 (f181 a b):=by
 have w1:=wI (b.lo+1);have w2:=wI (b.hi - 1);unfold f181;have k:∀h:Int,h<=9223372036854775807->-9223372036854775808<=((bif (decide (b.lo<0)) then(bif ((decide (a.hi<=0))&&(decide (b.hi<0))) then(aa.mk (if a.lo>(i64.wrap (b.lo+1)) then a.lo else(i64.wrap (b.lo+1))) h) else(aa.mk (i64.wrap (b.lo+1)) h)) else(aa.mk 0 h)):aa).lo/\((bif (decide (b.lo<0)) then(bif ((decide (a.hi<=0))&&(decide (b.hi<0))) then(aa.mk (if a.lo>(i64.wrap (b.lo+1)) then a.lo else(i64.wrap (b.lo+1))) h) else(aa.mk (i64.wrap (b.lo+1)) h)) else(aa.mk 0 h)):aa).hi<=9223372036854775807:=by grind
 cases decide (b.hi>0);exact k 0 dC;cases ((decide (a.lo>=0))&&(decide (b.lo>0)));exact k _ w2.2;exact k _ (by split<;>omega)
theorem f157_ok(op:Int)(a b:aa)(ha:Ne a)(hb:Ne b):Sat (f157 op a b) I6:=by
 have two:∀x y:Int,[x,y].length<9223372036854775807:=λ_ _=>sM;have n1:Sat (some f151) I6:=by grind [Sat.pure,I6,f151]
 refine Sat.cond (λ_=>n1) λ_=>Sat.cond (λ_=>Sat.bind (f174_ok _ _ _ (two _ _) (two _ _) (iw _ _ f175_i)) λ_ h=>Sat.pure h) λ_=>Sat.cond (λ_=>Sat.bind (f174_ok _ _ _ (two _ _) (two _ _) (iw _ _ f176_i)) λ_ h=>Sat.pure h) λ_=>Sat.cond (λ_=>Sat.bind (f174_ok _ _ _ (two _ _) (two _ _) (iw _ _ f177_i)) λ_ h=>Sat.pure h) λ_=>Sat.cond (λ_=>?_) λ_=>?_;obtain⟨l,h1,h2,h3⟩:=f179_ok b;rw[h1,bnS];refine Sat.bind (f174_ok _ _ _ (two _ _) oM λx y hy=>?_) λ_ h=>Sat.pure h;grind [f178,Sat.guard,nz_t,Sat.pure,wI];refine Sat.letk (λk:Bool->Option aa=>∀c,Sat (k c) I6) (λc=>Sat.cond (λ_=>Sat.cond (λ_=>n1) λ_=>Sat.cond (λ_=>Sat.pure (f180_i a b ha)) λ_=>Sat.pure (f181_i a b ha)) λ_=>?_) λk hk=>Sat.cond (λ_=>hk _) λ_=>hk _;refine Sat.letk (λk:Bool->Option aa=>∀c,Sat (k c) I6) (λc=>Sat.cond (λ_=>Sat.bind (f182_ok _ _ _) λ_ h=>Sat.pure h) λ_=>?_) λk hk=>Sat.cond (λ_=>hk _) λ_=>Sat.cond (λ_=>hk _) λ_=>Sat.cond (λ_=>hk _) λ_=>Sat.cond (λ_=>hk _) λ_=>Sat.cond (λ_=>hk _) λ_=>hk _;refine Sat.letk (λk:Bool->Option aa=>∀c,(c=true->op=13\/op=14\/op=15)->Sat (k c) I6) (λc hc=>?_) λk hk=>Sat.cond (λh=>hk _ λ_=> .inl (by simpa using h)) λ_=>Sat.cond (λh=>hk _ λ_=> .inr (.inl (by simpa using h))) λ_=>hk _ λh=> .inr (.inr (by simpa using h));refine Sat.cond (λhct=>Sat.bind (f183_ok _ _ _ (hc hct)) λ_ h=>Sat.pure h) λ_=>Sat.cond (λ_=>Sat.bind (f174_ok _ _ _ sM (two _ _) (iw _ _ f176_i)) λ_ h=>Sat.pure h) λ_=>Sat.cond (λ_=>Sat.bind (f174_ok _ _ _ sM (two _ _) (iw _ _ f176_i)) λ_ h=>Sat.pure h) λ_=>Sat.cond (λ_=>Sat.bind (f184_ok _ ha) λ_ h=>Sat.pure h) λ_=>n1
theorem fl_d:∀(L:List (Int×Int))(d a b n m to:Int),fl L d a b n m to=true->d=0\/∃w,(68,w)∈L/\rng w d=true
 |[],d,a,b,n,m,to,h=>by
  simp only[fl,Bool.and_eq_true,decide_eq_true_eq] at h;exact .inl oM
 |(c,w)::r,d,a,b,n,m,to,h=>by
  have up:(d=0\/∃w,(68,w)∈r/\rng w d=true)->d=0\/∃w',(68,w')∈(c,w)::r/\rng w' d=true:=λhh=>by
   rcases hh with h|⟨w',h1,h2⟩
   exact .inl h;exact .inr ⟨w',List.mem_cons_of_mem _ h1,h2⟩
  rw[fl] at h;by_cases hq:c=68;subst hq;refine .inr ⟨w,List.mem_cons_self,?_⟩;have h':(rng w d&&fl r 0 a b n m to)=true:=h;rw[Bool.and_eq_true] at h';exact h'.1;have e:decide (c=68)=false:=dcF hq;rw[e] at h;revert h;cases decide (c=68)<;>cases decide (c=65)<;>cases decide (c=66)<;>cases decide (c=78)<;>cases decide (c=77)<;>intro h<;>simp only[cdT,cdF,Bool.and_eq_true] at h<;>exact up (fl_d _ _ _ _ _ _ _ h.2)
theorem fl_a:∀(L:List (Int×Int))(d a b n m to:Int),fl L d a b n m to=true->a=0\/∃w,(65,w)∈L/\rng w a=true
 |[],d,a,b,n,m,to,h=>by
  simp only[fl,Bool.and_eq_true,decide_eq_true_eq] at h;exact .inl oM
 |(c,w)::r,d,a,b,n,m,to,h=>by
  have up:(a=0\/∃w,(65,w)∈r/\rng w a=true)->a=0\/∃w',(65,w')∈(c,w)::r/\rng w' a=true:=λhh=>by
   rcases hh with h|⟨w',h1,h2⟩
   exact .inl h;exact .inr ⟨w',List.mem_cons_of_mem _ h1,h2⟩
  rw[fl] at h;by_cases hq:c=65;subst hq;refine .inr ⟨w,List.mem_cons_self,?_⟩;have h':(rng w a&&fl r d 0 b n m to)=true:=h;rw[Bool.and_eq_true] at h';exact h'.1;have e:decide (c=65)=false:=dcF hq;rw[e] at h;revert h;cases decide (c=68)<;>cases decide (c=65)<;>cases decide (c=66)<;>cases decide (c=78)<;>cases decide (c=77)<;>intro h<;>simp only[cdT,cdF,Bool.and_eq_true] at h<;>exact up (fl_a _ _ _ _ _ _ _ h.2)
theorem yH:∀(L:List (Int×Int))(d a b n m to:Int),fl L d a b n m to=true->b=0\/∃w,(66,w)∈L/\rng w b=true
 |[],d,a,b,n,m,to,h=>by
  simp only[fl,Bool.and_eq_true,decide_eq_true_eq] at h;exact .inl oM
 |(c,w)::r,d,a,b,n,m,to,h=>by
  have up:(b=0\/∃w,(66,w)∈r/\rng w b=true)->b=0\/∃w',(66,w')∈(c,w)::r/\rng w' b=true:=λhh=>by
   rcases hh with h|⟨w',h1,h2⟩
   exact .inl h;exact .inr ⟨w',List.mem_cons_of_mem _ h1,h2⟩
  rw[fl] at h;by_cases hq:c=66;subst hq;refine .inr ⟨w,List.mem_cons_self,?_⟩;have h':(rng w b&&fl r d a 0 n m to)=true:=h;rw[Bool.and_eq_true] at h';exact h'.1;have e:decide (c=66)=false:=dcF hq;rw[e] at h;revert h;cases decide (c=68)<;>cases decide (c=65)<;>cases decide (c=66)<;>cases decide (c=78)<;>cases decide (c=77)<;>intro h<;>simp only[cdT,cdF,Bool.and_eq_true] at h<;>exact up (yH _ _ _ _ _ _ _ h.2)
theorem yn:∀k,k<57->((kj ((k:Nat)+1:Int)).all λp=>(!(decide (p.1=68))||decide (p.2=114))&&((!(decide (p.1=65))||(decide (p.2=114)||(decide (48<=k))))&&(!(decide (p.1=66))||(decide (p.2=114)||(decide (48<=k)||(decide (p.2=108)&&(decide (k=4)||decide (k=5))))))))=true:=by decide+kernel
theorem sv{v:Int}(h:rng 114 v=true):0<=v/\v<=15:=by simp only[rng,f150] at h;simp at h;omega
theorem rng_l{v:Int}(h:rng 108 v=true):1<=v/\v<=65536:=by simp only[rng,f150] at h;simp at h;omega
theorem dv{v:Int}(h:0<=v/\v<=15):bS 16 v=true:=by obtain⟨n,rfl⟩:=Int.eq_ofNat_of_zero_le h.1;have:n<16:=oM;simp[bS,this]
structure Rgi(x:aG):Prop where
 o:1<=x.op/\x.op<=57
 d:0<=x.d/\x.d<=15
 a:x.op<=48->0<=x.a/\x.a<=15
 b:x.op<=48->x.op≠5->x.op≠6->0<=x.b/\x.b<=15
 bl:x.op=5\/x.op=6->0<=x.b/\x.b<=65536
theorem w3{x:aG}(h:gy x=true):Rgi x:=by
 unfold gy at h;simp only[Bool.and_eq_true,Bool.not_eq_true',Bool.or_eq_false_iff,Bool.not_eq_false',decide_eq_true_eq] at h;have ho:1<=x.op/\x.op<=57:=h.1.1;have hf:=h.2.2;obtain⟨k,hk⟩:∃k:Nat,x.op=(k:Int)+1:=⟨(x.op - 1).toNat,oM⟩;have ht:=List.all_eq_true.1 (yn k oM);rw[hk] at hf;refine⟨ho,?_,λh48=>?_,λh48 h5 h6=>?_,λh56=>?_⟩;rcases fl_d _ _ _ _ _ _ _ hf with e|⟨w,h1,h2⟩
 omega;have:=ht _ h1;simp at this;rw[this] at h2;exact sv h2;rcases fl_a _ _ _ _ _ _ _ hf with e|⟨w,h1,h2⟩
 omega;have:=ht _ h1;simp at this;have e:w=114:=oM;rw[e] at h2;exact sv h2;rcases yH _ _ _ _ _ _ _ hf with e|⟨w,h1,h2⟩
 omega;have:=ht _ h1;simp at this;have e:w=114:=oM;rw[e] at h2;exact sv h2;rcases yH _ _ _ _ _ _ _ hf with e|⟨w,h1,h2⟩
 omega;have:=ht _ h1;simp at this;have e:w=114\/w=108:=oM;rcases e with e|e
 rw[e] at h2;have:=sv h2;omega;rw[e] at h2;have:=rng_l h2;omega
structure IOk(t:ah)(x:aG):Prop where
 r:Rgi x
 n6:I64 x.n
 ld:x.op=3\/x.op=4->∃o,idx t.objs x.n=some o/\0<=x.m/\x.m<o.size
 ldx:x.op=5\/x.op=6->∃o,idx t.objs x.n=some o/\0<=x.m/\x.m+x.b<=o.size
 jt:x.op=32->0<=x.m/\x.m<=65536
 call:x.op=49->∃tk e o,idx t.tasks x.a=some tk/\idx tk.entries x.b=some e/\idx t.objs x.n=some o/\(e.ins.length:Int)+e.outs.length+1<=o.size
 sel:x.op=50->∃s,idx t.selects x.n=some s
theorem IOk.of{t:ah}(hv:VT t)(hb:Bdt t){x:aG}(hf:fR t x=true)(hn:x.op=50->0<=x.n)(h6:I64 x.n):IOk t x:=by
 have hm:gy x=true:=by unfold fR at hf;rw[Bool.and_eq_true] at hf;exact hf.1
 have hr:=w3 hm;refine⟨hr,h6,λho=>?_,λho=>?_,λho=>?_,λho=>?_,λho=>?_⟩;unfold fR at hf;rw[Bool.and_eq_true] at hf;have h1:(decide (x.op=3)||decide (x.op=4))=true:=by simpa using ho
 rw[h1,cdT] at hf;obtain⟨o,e1,e2,e3⟩:=eS hf.2;have:=hv.o (cO e1);rw[w64 oM oM] at e3;exact⟨o,e1,e2,oM⟩;unfold fR at hf;rw[Bool.and_eq_true] at hf;have h1:(decide (x.op=3)||decide (x.op=4))=false:=by simp;omega
 have h2:(decide (x.op=5)||decide (x.op=6))=true:=by simpa using ho
 rw[h1,h2,cdF,cdT] at hf;obtain⟨o,e1,e2,e3⟩:=eS hf.2;have:=hv.o (cO e1);have:=hr.bl ho;rw[w64 oM oM] at e3;exact⟨o,e1,e2,oM⟩;have:=o8 hm ho;omega;unfold fR at hf;rw[Bool.and_eq_true,ho] at hf;simp at hf;obtain⟨_,h1,h2⟩:=hf;unfold mQ at h1 h2;cases ht:idx t.tasks x.a with
 |none=>rw[ht] at h1;cases h1
 |some tk=>
  rw[ht] at h1 h2;dsimp only at h1 h2;cases he:idx tk.entries x.b with
  |none=>rw[he] at h1;cases h1
  |some e=>rw[he] at h2;dsimp only at h2;obtain⟨o,e1,e2,e3⟩:=eS h2;have:=hv.o (cO e1);have:=hb.forms tk (cO ht) e (cO he);rw[w64 (x:=(e.ins.length:Int)+e.outs.length) oM oM,w64 (x:=(e.ins.length:Int)+e.outs.length+1) oM oM,w64 oM oM] at e3;exact⟨tk,e,o,rfl,he,e1,oM⟩
 unfold fR at hf;rw[Bool.and_eq_true,ho] at hf;simp at hf;obtain⟨s,hs,_⟩:=aI (L:=t.selects) (i:=x.n) ⟨hn ho,hf.2⟩;exact⟨s,hs⟩
theorem yG{d a b n m to:Int}(h:fl (kj 50) d a b n m to=true):0<=n:=by
 have:kj 50=[(78,106)]:=by decide+kernel
 rw[this] at h;simp only[fl,rng,f150] at h;simp at h;omega
theorem yz{x:aG}(h:gy x=true)(ho:x.op=50):0<=x.n:=by unfold gy at h;simp only[Bool.and_eq_true] at h;have:=h.2.2;rw[ho] at this;exact yG this
abbrev Rgs:=Nat->aa
abbrev Wy:=List (Int×Rgs)
abbrev Pl2:=List ((Int×Int)×aa)
def RNe(r:Rgs):Prop:=∀q,q<16->Ne (r q)
theorem RNe.set{r:Rgs}(h:RNe r){v:aa}(hv:Ne v)(i:Nat):RNe (bn r i v):=λq hq=>by
 unfold bn;cases Nat.beq q i with
 |true=>exact hv
 |false=>exact h q hq
structure WyOk(n:Nat)(wy:Wy):Prop where
 at_:∀p∈wy,0<=p.1/\p.1<n
 ne:∀p∈wy,RNe p.2
 nd:(wy.map (·.1)).Nodup
structure Sh(os:List Obj)(rg:List aa)(sl:List (List aa)):Prop where
 rl:rg.length=os.length
 rne:∀v∈rg,Ne v
 ol:os.length<=4096
 os1:∀o∈os,1<=o.size/\o.size<=16384
 sl_:sl.length=os.length
 row:∀(i:Nat)(r:List aa)(o:Obj),sl[i]? =some r->os[i]? =some o->(r.length:Int)=o.size
 sne:∀(i:Nat)(r:List aa)(g v:aa),sl[i]? =some r->rg[i]? =some g->v∈r->Ne v/\g.lo<=v.lo/\v.hi<=g.hi
theorem Sh.at{os:List Obj}{rg:List aa}{sl:List (List aa)}(h:Sh os rg sl){i:Int}{o:Obj}(ho:idx os i=some o):∃r g,idx sl i=some r/\idx rg i=some g/\(r.length:Int)=o.size/\Ne g/\∀v∈r,Ne v/\g.lo<=v.lo/\v.hi<=g.hi:=by have hi:=db ho;obtain⟨r,hr,_⟩:=aI (L:=sl) (i:=i) ⟨hi.1,by rw[h.sl_];exact hi.2⟩;obtain⟨g,hg,hgm⟩:=aI (L:=rg) (i:=i) ⟨hi.1,by rw[h.rl];exact hi.2⟩;exact⟨r,g,hr,hg,h.row _ _ _ (bg hr) (bg ho),h.rne g hgm,λv hv=>h.sne _ _ _ _ (bg hr) (bg hg) hv⟩
structure PlOk(rg:List aa)(sl:List (List aa))(pl:Pl2):Prop where
 at_:∀p∈pl,∃r g,idx sl p.1.1=some r/\idx rg p.1.1=some g/\0<=p.1.2/\p.1.2<r.length/\Ne p.2/\g.lo<=p.2.lo/\p.2.hi<=g.hi
 nd:(pl.map (·.1)).Nodup
theorem jF{κ α:Type}[DecidableEq κ](k:κ)(v:α):∀L:List (κ×α),(∀p∈bP L k v,p∈L\/p=(k,v))/\((L.map (·.1)).Nodup->((bP L k v).map (·.1)).Nodup)
 |[]=>by simp[bP]
 |q::L=>by
  obtain⟨h1,h2⟩:=jF k v L;unfold bP;by_cases hq:q.1=k;simp_all;rw[if_neg hq];refine⟨λp hp=>?_,λhn=>?_⟩;grind;grind
theorem kS{κ α:Type}[DecidableEq κ]{k:κ}{v:α}:∀{L:List (κ×α)},bT L k=some v->(k,v)∈L
 |[],h=>by simp[bT] at h
 |p::L,h=>by
  unfold bT at h;by_cases hk:p.1=k;grind;rw[if_neg hk] at h;exact List.mem_cons_of_mem _ (kS h)
theorem WyOk.nil{n:Nat}:WyOk n []:=⟨sM,sM,sM⟩
theorem PlOk.nil{rg sl}:PlOk rg sl []:=⟨sM,sM⟩
theorem l7{i:Nat}(h:i<16):bS 16 (i:Int)=true:=dv oM
section
variable{t:ah}{rg:List aa}{fc:List am}{sl:List (List aa)}{pc:Int}{rr:Rgs}{pl:Pl2}
theorem f123_l1_ok(wy:Wy)(a:Int)(old:Rgs)(he:(Option.getD (bT wy a) (λ_=>(aa.mk 0 0)))=old)(ho:RNe old)(Q:Wy->Prop)(k:Rgs->Option Wy)(hk:∀r,RNe r->Sat (k r) Q):∀(n i:Nat)(r:Rgs),i<=16->16<n+i->RNe r->Sat (f123_l1 wy a k n (i:Int) r) Q
 |0,i,_,_,h,_=>oM
 |n+1,i,r,hi,h,hr=>by
  rw[f123_l1];by_cases hh:i<16;rw[dcT oM,cdT,bR _ (l7 hh),bR _ (l7 hh),he,Int.toNat_natCast,f101_e1,bnS,bR _ (l7 hh),wN oM];exact f123_l1_ok wy a old he ho Q k hk n (i+1) _ oM oM (hr.set (gZ _ _ (hr i hh) (ho i hh)).1 i);grind
theorem f123_ok{wy:Wy}(hw:WyOk fc.length wy)(a:Int){r:Rgs}(hr:RNe r):Sat (f123 t rg fc sl pc rr pl wy a r) (WyOk fc.length):=by
 refine Sat.cond (λ_=>Sat.pure hw) λhc=>?_;simp only[Bool.or_eq_false_iff,decide_eq_false_iff_not] at hc;refine Sat.letk (λk:Rgs->Option Wy=>∀r,RNe r->Sat (k r) (WyOk fc.length)) (λr hr=>Sat.pure ?_) λk hk=>?_;obtain⟨h1,h2⟩:=jF a r wy;refine⟨λp hp=>?_,λp hp=>?_,h2 hw.nd⟩;rcases h1 p hp with h|h
 exact hw.at_ p h;simp_all;rcases h1 p hp with h|h
 exact hw.ne p h;subst h;exact hr;refine Sat.cond (λhs=>?_) λ_=>hk r hr;obtain⟨o,ho⟩:=Option.isSome_iff_exists.1 hs;exact f123_l1_ok wy a o (by rw[ho];rfl) (hw.ne _ (kS ho)) _ k hk _ 0 r oM oM hr
theorem f156_ok{wy:Wy}(hp:PlOk rg sl pl){o k:Int}{v:aa}{row:List aa}{g:aa}(h1:idx sl o=some row)(h2:idx rg o=some g)(h3:0<=k/\k<row.length)(hv:Ne v/\g.lo<=v.lo/\v.hi<=g.hi):Sat (f156 t rg fc sl pc rr pl wy o k v) (PlOk rg sl):=by
 refine Sat.letk (λK:Int->Int->Option Pl2=>∀a b,Ne ⟨a,b⟩->g.lo<=a->b<=g.hi->Sat (K a b) (PlOk rg sl)) (λa b hab ha hb=>Sat.pure ?_) λK hK=>?_;obtain⟨e1,e2⟩:=jF (o,k) (aa.mk a b) pl;refine⟨λp hq=>?_,e2 hp.nd⟩;rcases e1 p hq with h|h
 exact hp.at_ p h;grind;refine Sat.cond (λhs=>?_) λ_=>hK _ _ hv.1 hv.2.1 hv.2.2;obtain⟨o',ho⟩:=Option.isSome_iff_exists.1 hs;rw[ho,Option.getD_some,f101_e1,bnS];obtain⟨r',g',q1,q2,_,_,q5,q6,q7⟩:=hp.at_ _ (kS ho);dsimp only at q1 q2 q5 q6 q7;rw[h2,aK] at q2;subst q2;obtain⟨z1,z2,z3,z4,z5,z6,z7⟩:=gZ v o' hv.1 q5;exact hK _ _ z1 oM oM
theorem uo:RNe (λ_=>(aa.mk 0 0)):=λ_ _=>by unfold Ne I6;dsimp only;omega
theorem f102_ok{wy:Wy}(hw:WyOk fc.length wy)(hl:t.handlers.length<=4096)(c:Bool):Sat (f102 t rg fc sl pc rr pl wy c) (WyOk fc.length):=by
 refine Sat.letk (λK:Int->Option Wy=>∀i:Int, -1<=i->i<t.handlers.length->Sat (K i) (WyOk fc.length)) (λi h1 h2=>?_) λK hK=>?_;grind [Sat.pure,Sat.bind,Sat.idx,f123_ok,uo];refine Sat.letk (λK2:Unit->Option Wy=>Sat (K2 ()) (WyOk fc.length)) (hK _ oM oM) λK2 hK2=>?_;have key:∀(n i:Nat),i<=t.handlers.length->t.handlers.length<n+i->Sat (f102_l1 t pc c K K2 n (i:Int)) (WyOk fc.length):=by
  intro n;induction n with
  |zero=>intro i _ h;omega
  |succ n ih=>intro i hi h;rw[f102_l1];by_cases hh:i<t.handlers.length;rw[ltT hh,cdT,aE hh,bnS];refine Sat.letk (λK3:Unit->Option Wy=>Sat (K3 ()) (WyOk fc.length)) (Sat.cond (λ_=>hK _ oM oM) λ_=>?_) λK3 hK3=>hK3;grind [wN];grind
 grind
theorem f153_ok{wy:Wy}(hw:WyOk fc.length wy){d:Int}{v:aa}(hd:0<=d/\d<=15)(hr:RNe rr)(hv:I6 v):Sat (f153 t rg fc sl pc rr pl wy d v) (WyOk fc.length):=by refine Sat.cond (λhc=>?_) λ_=>Sat.pure hw;rw[Bool.not_eq_true'] at hc;exact Sat.guard (dv hd) (Sat.bind (f123_ok hw _ (hr.set (f155_ne hv hc) _)) λr h=>Sat.pure h)
theorem f159_ok{wy:Wy}(hw:WyOk fc.length wy){to d:Int}{v:aa}(hd:0<=d/\d<=15)(hr:RNe rr)(hv:I6 v):Sat (f159 t rg fc sl pc rr pl wy to d v) (WyOk fc.length):=by refine Sat.cond (λhc=>?_) λ_=>Sat.pure hw;rw[Bool.not_eq_true'] at hc;exact Sat.guard (dv hd) (Sat.bind (f123_ok hw _ (hr.set (f155_ne hv hc) _)) λr h=>Sat.pure h)
theorem rAt{r:Rgs}(hr:RNe r){a:Int}(ha:0<=a/\a<=15):Ne (r a.toNat):=hr _ oM
end
theorem kJ{α:Type}{L:List α}{lo hi:Int}(h1:0<=lo)(h2:lo<=hi)(h3:hi<=L.length):dR L lo hi=true:=by grind [dR]
theorem jz{α:Type}{L:List α}{lo hi:Int}(h1:0<=lo)(h2:lo<=hi)(h3:hi<=L.length):((bQ L lo hi).length:Int)=hi - lo:=by grind [bQ]
theorem jy{α:Type}{L:List α}{lo hi:Int}{x:α}(h:x∈bQ L lo hi):x∈L:=List.mem_of_mem_drop (List.mem_of_mem_take h)
theorem f39_lo(a b:Int):(f39 a b).lo=a:=rfl
theorem f39_hi(a b:Int):(f39 a b).hi=b:=rfl
section
variable{t:ah}{rg:List aa}{fc:List am}{sl:List (List aa)}{pc:Int}{rr:Rgs}{pl:Pl2}{x:aG}
theorem f124_l1_ok{Q:Rgs×Wy->Prop}(K:Int->Int->Option (Rgs×Wy))(hK:∀a b,Ne ⟨a,b⟩->Sat (K a b) Q)(L:List (List aa))(hL:bQ sl ((f154 (rr (Int.toNat x.a)) (f39 1 (List.length sl:Int))).lo) ((f154 (rr (Int.toNat x.a)) (f39 1 (List.length sl:Int))).hi)=L)(hne:∀r∈L,0<r.length/\∀v∈r,Ne v)(hl:L.length<9223372036854775807):∀(n i:Nat)(a b:Int),Ne ⟨a,b⟩->i<=L.length->L.length<n+i->Sat (f124_l1 sl rr x K n (i:Int) a b) Q
 |0,i,_,_,_,_,h=>oM
 |n+1,i,a,b,hab,hi,h=>by
  rw[f124_l1];rw[hL];by_cases hh:i<L.length;rw[ltT hh,cdT,aE hh,bnS];obtain⟨h0,hnv⟩:=hne _ (List.getElem_mem hh);obtain⟨v,hv,hvm⟩:=aI (L:=L[i]) (i:=0) ⟨Int.le_refl _,oM⟩;rw[hv,bnS,f101_e1,bnS,wN oM];exact f124_l1_ok K hK L hL hne hl n (i+1) _ _ (gZ _ _ hab (hnv v hvm)).1 oM oM;grind
theorem f124_ok(hx:IOk t x)(ho:x.op=3\/x.op=5\/x.op=7)(hs:Sh t.objs rg sl){wy:Wy}(hw:WyOk fc.length wy)(hr:RNe rr):Sat (f124 t rg fc sl pc rr pl wy x) (λz=>WyOk fc.length z.2):=by
 have ha:=hx.r.a oM;have hd:=hx.r.d;have hsl:=hs.sl_;have hol:=hs.ol;unfold f124;refine Sat.guard (dv ha) (Sat.cond (λh3=>?_) λ_=>Sat.cond (λh5=>?_) λ_=>Sat.cond (λh7=>?_) λ_=>Sat.pure hw);rw[decide_eq_true_eq] at h3;obtain⟨o,e1,e2,e3⟩:=hx.ld (.inl h3);obtain⟨row,g,q1,q2,q3,_,q5⟩:=hs.at e1;rw[q1,bnS];refine Sat.bind (Sat.idx ⟨e2,oM⟩) λv hv=>Sat.bind (f153_ok hw hd hr (q5 v (cO hv)).1.2) λr h=>Sat.pure h;rw[decide_eq_true_eq] at h5;refine Sat.cond (λ_=>Sat.pure hw) λhc=>?_;obtain⟨o,e1,e2,e3⟩:=hx.ldx (.inl h5);have hb:=hx.r.bl (.inl h5);obtain⟨row,g,q1,q2,q3,_,q5⟩:=hs.at e1;have hos:=hs.os1 o (cO e1);have hi:=f154_ne (rAt hr ha) hc;generalize f154 (rr (Int.toNat x.a)) (f39 0 (i64.wrap (x.b - 1)))=v at hi⊢;rw[w64 (x:=x.b - 1) oM oM,f39_lo,f39_hi] at hi;obtain⟨h1,h2,h4⟩:=hi;have h1':=h1;unfold Ne I6 at h1;rw[w64 (x:=x.m+v.lo) oM oM,w64 (x:=x.m+v.hi) oM oM,w64 (x:=x.m+v.hi+1) oM oM];rw[q1,bnS];have hlen:=jz (L:=row) (lo:=x.m+v.lo) (hi:=x.m+v.hi+1) oM oM oM;have hPm:∀z,z∈bQ row (x.m+v.lo) (x.m+v.hi+1)->Ne z:=λz hz=>(q5 z (jy hz)).1;generalize hsf:bQ row (x.m+v.lo) (x.m+v.hi+1)=P at hlen hPm⊢;refine Sat.guard (kJ oM oM oM) (Sat.guard (dv ha) (Sat.bind (Sat.idx ⟨Int.le_refl _,oM⟩) λz hz=>Sat.guard (kJ oM oM oM) ?_));have hl2:=jz (L:=P) (lo:=1) (hi:=(P.length:Int)) oM oM oM;rw[f101_eq _ _ oM,bnS];exact Sat.bind (f153_ok hw hd (hr.set h1' _) (wo _ _ (hPm z (cO hz)) λy hy=>hPm y (jy hy)).2) λr h=>Sat.pure h;refine Sat.cond (λ_=>Sat.pure hw) λhc=>?_;have hi:=f154_ne (rAt hr ha) hc;obtain⟨h1,h2,h4⟩:=hi;rw[f39_lo] at h2;rw[f39_hi] at h4;have h1':=h1;unfold Ne I6 at h1;have hrow:∀r∈sl,0<r.length/\∀v∈r,Ne v:=λr hr=>by
  obtain⟨i,hi⟩:=List.getElem?_of_mem hr;have hil:=(giS.1 hi).1;obtain⟨o,ho⟩:∃o,t.objs[i]? =some o:=⟨_,geG oM⟩;have:=hs.row i r o hi ho;have:=hs.os1 o (List.mem_of_getElem? ho);have hrl:=hs.rl;obtain⟨g,hg⟩:∃g,rg[i]? =some g:=⟨_,geG oM⟩;exact⟨oM,λv hv=>(hs.sne i r g v hi hg hv).1⟩
 have hmem:∀r,r∈bQ sl ((f154 (rr (Int.toNat x.a)) (f39 1 (List.length sl:Int))).lo) ((f154 (rr (Int.toNat x.a)) (f39 1 (List.length sl:Int))).hi)->0<r.length/\∀v∈r,Ne v:=λr hr=>hrow r (jy hr);have hlen:=jz (L:=sl) (lo:=(f154 (rr (Int.toNat x.a)) (f39 1 (List.length sl:Int))).lo) (hi:=(f154 (rr (Int.toNat x.a)) (f39 1 (List.length sl:Int))).hi) oM oM oM;rw[w64 (x:=(f154 (rr (Int.toNat x.a)) (f39 1 (List.length sl:Int))).lo - 1) oM oM];refine Sat.bind (Sat.idx (L:=sl) ⟨oM,oM⟩) λr0 hr0=>?_;obtain⟨_,hr0v⟩:=hrow r0 (cO hr0);refine Sat.bind (Sat.idx (L:=r0) (i:=0) ⟨Int.le_refl _,oM⟩) λv hv=>?_;refine Sat.letk (λK:Int->Int->Option (Rgs×Wy)=>∀a b,Ne ⟨a,b⟩->Sat (K a b) λz=>WyOk fc.length z.2) (λa b hab=>?_) λK hK=>?_;exact Sat.guard (dv ha) (Sat.bind (f153_ok hw hd (hr.set h1' _) hab.2) λr h=>Sat.pure h);refine Sat.guard (kJ oM oM oM) ?_;exact f124_l1_ok K hK _ rfl hmem oM _ 0 _ _ (hr0v v (cO hv)) oM sM
theorem f126_ok(hx:IOk t x)(ho:9<=x.op/\x.op<=26){wy:Wy}(hw:WyOk fc.length wy)(hr:RNe rr):Sat (f126 t rg fc sl pc rr pl wy x) (WyOk fc.length):=by have ha:=hx.r.a oM;have hb:=hx.r.b oM oM oM;refine Sat.guard (dv ha) (Sat.guard (dv hb) ?_);exact Sat.bind (f157_ok _ _ _ (rAt hr ha) (rAt hr hb)) λv hv=>Sat.bind (f153_ok hw hx.r.d hr hv) λr h=>Sat.pure h
theorem f127_ok(hx:IOk t x)(ho:x.op=27\/x.op=28)(hl:t.handlers.length<=4096){wy:Wy}(hw:WyOk fc.length wy)(hr:RNe rr):Sat (f127 t rg fc sl pc rr pl wy x) (WyOk fc.length):=by have ha:=hx.r.a oM;refine Sat.guard (dv ha) (Sat.letk (λK:Bool->Int->Int->Option Wy=>∀c a b,I6 ⟨a,b⟩->Sat (K c a b) (WyOk fc.length)) (λc a b hab=>?_) λK hK=>Sat.cond (λ_=>hK _ _ _ (f154_i6 (rAt hr ha))) λ_=>hK _ _ _ (f158_i6 (rAt hr ha)));refine Sat.letk (λK:Wy->Option Wy=>∀w,WyOk fc.length w->Sat (K w) (WyOk fc.length)) (λw h=>Sat.bind (f153_ok h ha hr hab) λr h=>Sat.pure h) λK hK=>?_;grind [Sat.bind,f102_ok]
theorem f128_l1_ok(hx:IOk t x)(h32:x.op=32)(last:Int)(K:Wy->Option Wy)(hK:∀w,WyOk fc.length w->Sat (K w) (WyOk fc.length))(hr:RNe rr):∀(n i:Nat)(w:Wy),(i:Int)<=x.m->x.m<n+i->WyOk fc.length w->Sat (f128_l1 t rg fc sl pc rr pl x last K n (i:Int) w) (WyOk fc.length)
 |0,i,_,_,h,_=>oM
 |n+1,i,w,hi,h,hw=>by
  have hm:=hx.jt h32;rw[f128_l1];by_cases hh:(i:Int)<x.m;rw[dcT hh,cdT];refine Sat.letk (λK2:Wy->Option Wy=>∀w,WyOk fc.length w->Sat (K2 w) (WyOk fc.length)) (λw hw=>?_) λK2 hK2=>?_;rw[wN oM];exact f128_l1_ok hx h32 last K hK hr n (i+1) w (by push_cast;omega) (by push_cast;omega) hw;exact Sat.cond (λ_=>Sat.bind (f159_ok hw (hx.r.a oM) hr (wI _)) λr h=>hK2 r h) λ_=>hK2 _ hw;grind
theorem f128_ok(hx:IOk t x)(ho:29<=x.op/\x.op<=32){wy:Wy}(hw:WyOk fc.length wy)(hr:RNe rr):Sat (f128 t rg fc sl pc rr pl wy x) (WyOk fc.length):=by have ha:=hx.r.a oM;refine Sat.guard (dv ha) (Sat.cond (λ_=>Sat.bind (f123_ok hw _ hr) λr h=>Sat.pure h) λ_=>Sat.cond (λ_=>Sat.bind (f159_ok hw ha hr (f154_i6 (rAt hr ha))) λr h=>Sat.bind (f153_ok h ha hr (f158_i6 (rAt hr ha))) λr h=>Sat.pure h) λ_=>Sat.cond (λ_=>Sat.bind (f159_ok hw ha hr (f158_i6 (rAt hr ha))) λr h=>Sat.bind (f153_ok h ha hr (f154_i6 (rAt hr ha))) λr h=>Sat.pure h) λ_=>Sat.cond (λh32=>?_) λ_=>Sat.pure hw);rw[decide_eq_true_eq] at h32;have hm:=hx.jt h32;refine Sat.letk (λK:Int->Option Wy=>∀l,Sat (K l) (WyOk fc.length)) (λl=>?_) λK hK=>Sat.cond (λ_=>hK _) λ_=>hK _;refine Sat.letk (λK:Wy->Option Wy=>∀w,WyOk fc.length w->Sat (K w) (WyOk fc.length)) (λw h=>Sat.cond (λ_=>Sat.bind (f123_ok h _ hr) λr h=>Sat.pure h) λ_=>Sat.pure h) λK hK=>?_;exact f128_l1_ok hx h32 l K hK hr _ 0 wy oM oM hw
theorem f129_ok(hx:IOk t x)(ho:33<=x.op/\x.op<=35)(hl:t.handlers.length<=4096){wy:Wy}(hw:WyOk fc.length wy)(hr:RNe rr):Sat (f129 t rg fc sl pc rr pl wy x) (WyOk fc.length):=by have ha:=hx.r.a oM;refine Sat.guard (dv ha) (Sat.letk (λK:Wy->Option Wy=>∀w,WyOk fc.length w->Sat (K w) (WyOk fc.length)) (λw h=>?_) λK hK=>?_);grind [f102_ok,Sat.pure];grind [Sat.bind,f153_ok,f154_i6,rAt]
theorem f131_ok(hx:IOk t x)(ho:x.op=2->x.op<=48)(hl:t.handlers.length<=4096)(he:t.excs<=64){wy:Wy}(hw:WyOk fc.length wy)(hr:RNe rr):Sat (f131 t rg fc sl pc rr pl wy x) (WyOk fc.length):=by
 have hd:=hx.r.d;have i2:∀a b:Int, -9223372036854775808<=a->b<=9223372036854775807->I6 (f39 a b):=by grind [w6]
 refine Sat.cond (λ_=>Sat.bind (f153_ok hw hd hr (i6_1 hx.n6)) λr h=>Sat.pure h) λ_=>Sat.cond (λh2=>?_) λ_=>Sat.cond (λ_=>Sat.bind (f153_ok hw hd hr (i2 _ _ oM oM)) λr h=>Sat.pure h) λ_=>Sat.cond (λ_=>Sat.bind (f102_ok hw hl _) λr h=>Sat.bind (f153_ok h hd hr (i2 _ _ oM oM)) λr h=>Sat.pure h) λ_=>Sat.cond (λ_=>Sat.bind (f153_ok hw hd hr (i2 _ _ oM oM)) λr h=>Sat.pure h) λ_=>Sat.cond (λ_=>Sat.bind (f153_ok hw hd hr (i2 _ _ oM oM)) λr h=>Sat.pure h) λ_=>Sat.bind (f123_ok hw _ hr) λr h=>Sat.pure h;rw[decide_eq_true_eq] at h2;have ha:=hx.r.a oM;exact Sat.guard (dv ha) (Sat.bind (f153_ok hw hd hr (rAt hr ha).2) λr h=>Sat.pure h)
end
theorem sm(r:Rgs)(i:Nat)(v:aa):bn r i v i=v:=by unfold bn;rw[Nat.beq_refl];rfl
section
variable{t:ah}{rg:List aa}{fc:List am}{sl:List (List aa)}{pc:Int}{rr:Rgs}{x:aG}
theorem f125_l1_ok{Q:Rgs×Pl2×Wy->Prop}(wy:Wy)(ha:0<=x.a/\x.a<=15)(rr2:Rgs)(hrr:bn rr (Int.toNat x.a) (f154 (rr (Int.toNat x.a)) (f39 0 (i64.wrap (x.b - 1))))=rr2)(g:aa)(row:List aa)(h1:idx sl x.n=some row)(h2:idx rg x.n=some g)(hm:0<=x.m/\x.m<=65536)
  (hv:Ne (f154 (rr2 (Int.toNat x.d)) g)/\g.lo<=(f154 (rr2 (Int.toNat x.d)) g).lo/\(f154 (rr2 (Int.toNat x.d)) g).hi<=g.hi)(hi:Int)(hhi:(rr2 (Int.toNat x.a)).hi=hi)(hb:x.m+hi<row.length)(hrl:(row.length:Int)<=65536)(K:Pl2->Option (Rgs×Pl2×Wy))(hK:∀p,PlOk rg sl p->Sat (K p) Q):
  ∀(n:Nat)(k:Int)(p:Pl2),0<=k->0<n->hi+1<n+k->k<4611686018427387904->PlOk rg sl p->Sat (f125_l1 t rg fc sl pc rr wy x g K n k p) Q
 |0,k,p,h0,hk,h,hk2,hp=>oM
 |n+1,k,p,h0,hk,h,hk2,hp=>by
  rw[f125_l1,hrr,hhi];refine Sat.guard (dv ha) ?_;by_cases hh:k<=hi;rw[dcT hh,cdT,w64 (x:=x.m+k) oM oM];refine Sat.bind (f156_ok hp h1 h2 ⟨oM,oM⟩ hv) λp' hp'=>?_;rw[w64 (x:=k+1) oM oM];exact f125_l1_ok wy ha rr2 hrr g row h1 h2 hm hv hi hhi hb hrl K hK n (k+1) p' oM (by push_cast at h;omega) (by push_cast at h;omega) oM hp';rw[dcF hh,cdF];exact hK p hp
theorem f125_l2_ok{Q:Rgs×Pl2×Wy->Prop}(wy:Wy)(hs:Sh t.objs rg sl)(ha:0<=x.a/\x.a<=15)(hd:0<=x.d/\x.d<=15)(hr:RNe rr)(rr2:Rgs)(hrr:bn rr (Int.toNat x.a) (f154 (rr (Int.toNat x.a)) (f39 1 (List.length sl:Int)))=rr2)(hi:Int)(hhi:(rr2 (Int.toNat x.a)).hi=hi)(hb:hi<=sl.length)(G:Prop)(hG:G->RNe rr2)(K:Bool->Pl2->Option (Rgs×Pl2×Wy))(hK:∀c p,(c=true->G)->PlOk rg sl p->Sat (K c p) Q):
  ∀(n:Nat)(k:Int)(c:Bool)(p:Pl2),1<=k->0<n/\hi+1<n+k->k<4611686018427387904->(k<=hi->G)->(c=true->G)->PlOk rg sl p->Sat (f125_l2 t rg fc sl pc rr wy x K n c k p) Q
 |0,k,c,p,h0,h,hk2,hg,hc,hp=>oM
 |n+1,k,c,p,h0,h,hk2,hg,hc,hp=>by
  have hol:=hs.ol;have hsl:=hs.sl_;have hrl:=hs.rl;rw[f125_l2,hrr,hhi];refine Sat.guard (dv ha) ?_;by_cases hh:k<=hi;rw[dcT hh,cdT];have h2:=h.2;push_cast at h2;have ih:=λc p hc hp=>f125_l2_ok wy hs ha hd hr rr2 hrr hi hhi hb G hG K hK n (k+1) c p oM ⟨oM,oM⟩ oM (λh=>hg oM) hc hp;refine Sat.letk (λK2:Bool->Pl2->Int->Int->Option (Rgs×Pl2×Wy)=>∀c p a b,(c=true->G)->PlOk rg sl p->Sat (K2 c p a b) Q) (λc p a b hc hp=>?_) λK2 hK2=>?_;rw[w64 (x:=k+1) oM oM];exact ih c p hc hp;refine Sat.guard (dv hd) ?_;rw[w64 (x:=k - 1) oM oM];obtain⟨o,ho,hom⟩:=aI (L:=t.objs) (i:=k - 1) ⟨oM,oM⟩;obtain⟨row,g,q1,q2,q3,_⟩:=hs.at ho;have:=hs.os1 o hom;rw[q2,bnS];refine Sat.cond (λhcc=>?_) λ_=>hK2 _ _ _ _ hc hp;rw[Bool.not_eq_true'] at hcc;exact Sat.bind (f156_ok hp q1 q2 ⟨Int.le_refl _,oM⟩ (f154_ne (rAt (hG (hg hh)) hd) hcc)) λp' hp'=>hK2 _ _ _ _ (λ_=>hg hh) hp';rw[dcF hh,cdF];exact hK c p hc hp
theorem f125_ok(hx:IOk t x)(ho:x.op=4\/x.op=6\/x.op=8)(hs:Sh t.objs rg sl){wy:Wy}(hw:WyOk fc.length wy)(hr:RNe rr){pl:Pl2}(hp:PlOk rg sl pl):Sat (f125 t rg fc sl pc rr pl wy x) (λz=>PlOk rg sl z.2.1/\WyOk fc.length z.2.2):=by
 have ha:=hx.r.a oM;have hd:=hx.r.d;have hol:=hs.ol;have hsl:=hs.sl_;unfold f125;refine Sat.guard (dv ha) (Sat.cond (λh4=>?_) λ_=>Sat.cond (λh6=>?_) λ_=>Sat.cond (λh8=>?_) λ_=>Sat.pure ⟨hp,hw⟩);rw[decide_eq_true_eq] at h4;obtain⟨o,e1,e2,e3⟩:=hx.ld (.inr h4);obtain⟨row,g,q1,q2,q3,_⟩:=hs.at e1;rw[q2,bnS];refine Sat.cond (λhc=>?_) λ_=>Sat.pure ⟨hp,hw⟩;rw[Bool.not_eq_true'] at hc;exact Sat.bind (f156_ok hp q1 q2 ⟨e2,oM⟩ (f154_ne (rAt hr ha) hc)) λp hp=>Sat.bind (f153_ok hw ha hr (f154_i6 (rAt hr ha))) λr h=>Sat.pure ⟨hp,h⟩;rw[decide_eq_true_eq] at h6;obtain⟨o,e1,e2,e3⟩:=hx.ldx (.inr h6);have hb:=hx.r.bl (.inr h6);obtain⟨row,g,q1,q2,q3,_⟩:=hs.at e1;have hos:=hs.os1 o (cO e1);generalize hrr:bn rr (Int.toNat x.a) (f154 (rr (Int.toNat x.a)) (f39 0 (i64.wrap (x.b - 1))))=rr2;have hra:rr2 (Int.toNat x.a)=f154 (rr (Int.toNat x.a)) (f39 0 (i64.wrap (x.b - 1))):=by rw[<-hrr,sm]
 refine Sat.guard (dv ha) (Sat.guard (dv hd) ?_);rw[q2,bnS];refine Sat.guard (dv ha) (Sat.cond (λ_=>Sat.pure ⟨hp,hw⟩) λhc=>?_);rw[Bool.or_eq_false_iff] at hc;have hi:=f154_ne (rAt hr ha) (by rw[<-hra];exact hc.1);rw[<-hra,w64 (x:=x.b - 1) oM oM,f39_lo,f39_hi] at hi;obtain⟨h1,h2,h3⟩:=hi;have hr2:RNe rr2:=by rw[<-hrr];exact hr.set (by rw[<-hra];exact h1) _
 unfold Ne I6 at h1;refine Sat.letk (λK:Pl2->Option (Rgs×Pl2×Wy)=>∀p,PlOk rg sl p->Sat (K p) λz=>PlOk rg sl z.2.1/\WyOk fc.length z.2.2) (λp hp=>?_) λK hK=>?_;exact Sat.bind (f153_ok hw hd hr2 (f154_i6 (rAt hr2 hd))) λr h=>Sat.pure ⟨hp,h⟩;refine Sat.guard (dv ha) ?_;exact f125_l1_ok wy ha rr2 hrr g row q1 q2 ⟨e2,oM⟩ (f154_ne (rAt hr2 hd) hc.2) _ rfl oM oM K hK _ _ _ h2 oM oM oM hp;rw[decide_eq_true_eq] at h8;generalize hrr:bn rr (Int.toNat x.a) (f154 (rr (Int.toNat x.a)) (f39 1 (List.length sl:Int)))=rr2;have hra:rr2 (Int.toNat x.a)=f154 (rr (Int.toNat x.a)) (f39 1 (List.length sl:Int)):=by rw[<-hrr,sm]
 have hG:Ne (rr2 (Int.toNat x.a))->RNe rr2:=λhc=>by rw[<-hrr];exact hr.set (by rw[<-hra];exact hc) _
 have hi:(1:Int)<=(rr2 (Int.toNat x.a)).lo/\(rr2 (Int.toNat x.a)).hi<=(sl.length:Int)/\(rr2 (Int.toNat x.a)).lo<=9223372036854775807 / 2/\0<=(rr2 (Int.toNat x.a)).hi:=by
  rw[hra];rcases f154_spec (rr (Int.toNat x.a)) (f39 1 (List.length sl:Int)) with⟨h1,h2,h3,_⟩|h1
  rw[f39_lo] at h2;rw[f39_hi] at h3;omega;rw[h1];dsimp only;omega
 refine Sat.guard (dv ha) (Sat.letk (λK:Bool->Pl2->Option (Rgs×Pl2×Wy)=>∀c p,(c=true->Ne (rr2 (Int.toNat x.a)))->PlOk rg sl p->Sat (K c p) λz=>PlOk rg sl z.2.1/\WyOk fc.length z.2.2) (λc p hc hp=>?_) λK hK=>?_);refine Sat.cond (λhct=>?_) λ_=>Sat.pure ⟨hp,hw⟩;have hr2:RNe rr2:=hG (hc hct);exact Sat.bind (f123_ok hw _ hr2) λr h=>Sat.pure ⟨hp,h⟩;refine Sat.guard (dv ha) ?_;exact f125_l2_ok wy hs ha hd hr rr2 hrr _ rfl hi.2.1 (Ne (rr2 (Int.toNat x.a))) hG K hK _ _ _ _ hi.1 oM oM (λh=>⟨h,by rw[hra];exact f154_i6 (rAt hr ha)⟩) (λh=>by cases h) hp
end
section
variable{t:ah}{rg:List aa}{fc:List am}{sl:List (List aa)}{pc:Int}{rr:Rgs}{x:aG}
theorem f160_l3_ok{wy:Wy}(hs:Sh t.objs rg sl){o:Int}{row:List aa}{g:aa}(h1:idx sl o=some row)(h2:idx rg o=some g)(hg:Ne g)(hl:row.length<=65536)(K:Pl2->Option Pl2)(hK:∀p,PlOk rg sl p->Sat (K p) (PlOk rg sl)):∀(n i:Nat)(p:Pl2),i<=row.length->row.length<n+i->PlOk rg sl p->Sat (f160_l3 t rg fc sl pc rr wy o K row n (i:Int) p) (PlOk rg sl)
 |0,i,_,_,h,_=>oM
 |n+1,i,p,hi,h,hp=>by
  rw[f160_l3];by_cases hh:i<row.length;rw[ltT hh,cdT,h2,bnS];refine Sat.bind (f156_ok hp h1 h2 ⟨oM,oM⟩ ⟨hg,Int.le_refl _,Int.le_refl _⟩) λp' hp'=>?_;rw[wN oM];exact f160_l3_ok hs h1 h2 hg hl K hK n (i+1) p' oM oM hp';grind
theorem f160_l2_ok{wy:Wy}(hs:Sh t.objs rg sl)(v:aa)(b:Int)(hb:(if(Int.fdiv v.hi (2^min (Int.toNat 32) i64.bits))<(i64.wrap ((List.length sl:Int) - 1)) then(Int.fdiv v.hi (2^min (Int.toNat 32) i64.bits)) else(i64.wrap ((List.length sl:Int) - 1)))=b)(hbl:b<sl.length)(K:Pl2->Int->Int->Option Pl2)(hK:∀p c d,PlOk rg sl p->Sat (K p c d) (PlOk rg sl)):∀(n:Nat)(o:Int)(p:Pl2),0<=o->0<n/\b+1<n+o->PlOk rg sl p->Sat (f160_l2 t rg fc sl pc rr wy K v n o p) (PlOk rg sl)
 |0,o,_,_,h,_=>oM
 |n+1,o,p,h0,h,hp=>by
  have hol:=hs.ol;have hsl:=hs.sl_;rw[f160_l2,hb];by_cases hh:o<=b;rw[dcT hh,cdT];have h2:=h.2;push_cast at h2;refine Sat.letk (λK2:Pl2->Option Pl2=>∀p,PlOk rg sl p->Sat (K2 p) (PlOk rg sl)) (λp hp=>?_) λK2 hK2=>?_;rw[w64 (x:=o+1) oM oM];exact f160_l2_ok hs v b hb hbl K hK n (o+1) p oM ⟨oM,oM⟩ hp;obtain⟨ob,ho,hom⟩:=aI (L:=t.objs) (i:=o) ⟨oM,oM⟩;obtain⟨row,g,q1,q2,q3,q4,_⟩:=hs.at ho;have:=hs.os1 ob hom;rw[q1,bnS];exact f160_l3_ok hs q1 q2 q4 oM K2 hK2 _ 0 p oM sM hp;grind
theorem f160_ok(hx:IOk t x)(hb:Bdt t)(h49:x.op=49)(hs:Sh t.objs rg sl){wy:Wy}{pl:Pl2}(hp:PlOk rg sl pl):Sat (f160 t rg fc sl pc rr pl wy x) (PlOk rg sl):=by
 obtain⟨tk,e,o,h1,h2,h3,h4⟩:=hx.call h49;obtain⟨row,g,q1,q2,q3,_⟩:=hs.at h3;have hos:=hs.os1 o (cO h3);have hol:=hs.ol;have hsl:=hs.sl_;unfold f160;rw[h1,bnS,h2,bnS];have key:∀(n i:Nat)(p:Pl2),i<=e.outs.length->e.outs.length<n+i->PlOk rg sl p->Sat (f160_l1 t rg fc sl pc rr wy x e n (i:Int) p) (PlOk rg sl):=by
  intro n;induction n with
  |zero=>omega
  |succ n ih=>intro i p hi h hp;rw[f160_l1];by_cases hh:i<e.outs.length;rw[ltT hh,cdT];refine Sat.letk (λK:Pl2->Int->Int->Option Pl2=>∀p c d,PlOk rg sl p->Sat (K p c d) (PlOk rg sl)) (λp c d hp=>?_) λK hK=>?_;grind [wN];rw[q1,bnS,w64 (x:=(List.length e.ins:Int)+(i:Int)) oM oM];refine Sat.bind (Sat.idx ⟨oM,oM⟩) λv _=>?_;refine f160_l2_ok hs v _ rfl ?_ K hK _ _ _ ?_ ⟨oM,?_⟩ hp;grind [w64];split<;>omega;grind [w64];grind [Sat.pure]
 grind
theorem and15(a:Int):0<=i64.wrap ((BitVec.ofInt i64.bits a&&&BitVec.ofInt i64.bits 15).toNat:Int)/\i64.wrap ((BitVec.ofInt i64.bits a&&&BitVec.ofInt i64.bits 15).toNat:Int)<=15:=by
 have h:(BitVec.ofInt i64.bits a&&&BitVec.ofInt i64.bits 15).toNat<=15:=by exact Nat.le_trans Nat.and_le_right dC
 grind [w64]
theorem f132_l1_ok{Q:Rgs×Pl2×Wy->Prop}(K:Rgs->Option (Rgs×Pl2×Wy))(hK:∀r,RNe r->Sat (K r) Q):∀(n i:Nat)(r:Rgs),i<=16->16<n+i->RNe r->Sat (f132_l1 K n (i:Int) r) Q
 |0,i,_,_,h,_=>oM
 |n+1,i,r,hi,h,hr=>by
  rw[f132_l1];by_cases hh:i<16;rw[dcT oM,cdT,bR _ (l7 hh),Int.toNat_natCast,f101_e1,bnS,bR _ (l7 hh),wN oM];exact f132_l1_ok K hK n (i+1) _ oM oM (hr.set (gZ _ _ (hr i hh) (show Ne ⟨0,0⟩ from uo 0 oM)).1 i);grind
theorem f132_l2_ok{pl:Pl2}(hp:PlOk rg sl pl){r:Rgs}(hr:RNe r)(s:bU)(hl:s.alts.length<=65536):∀(n i:Nat)(w:Wy),i<=s.alts.length->s.alts.length<n+i->WyOk fc.length w->Sat (f132_l2 t rg fc sl pc pl r s n (i:Int) w) (λz=>PlOk rg sl z.2.1/\WyOk fc.length z.2.2)
 |0,i,_,_,h,_=>oM
 |n+1,i,w,hi,h,hw=>by
  rw[f132_l2];by_cases hh:i<s.alts.length;rw[ltT hh,cdT,aE hh,bnS];refine Sat.bind (f123_ok hw _ hr) λw' hw'=>?_;rw[wN oM];exact f132_l2_ok hp hr s hl n (i+1) w' oM oM hw';grind [Sat.pure]
theorem f132_ok(hx:IOk t x)(ho:44<=x.op)(hb:Bdt t)(he:t.excs<=64)(hs:Sh t.objs rg sl){wy:Wy}(hw:WyOk fc.length wy)(hr:RNe rr){pl:Pl2}(hp:PlOk rg sl pl):Sat (f132 t rg fc sl pc rr pl wy x) (λz=>PlOk rg sl z.2.1/\WyOk fc.length z.2.2):=by have hd:=hx.r.d;have h15:=and15 x.a;have hr0:=hr;unfold f132;generalize(i64.wrap ((BitVec.ofInt i64.bits x.a&&&BitVec.ofInt i64.bits 15).toNat:Int))=a15 at h15⊢;refine Sat.guard (dv h15) (Sat.letk (λK:Rgs->Option (Rgs×Pl2×Wy)=>∀r,RNe r->Sat (K r) λz=>PlOk rg sl z.2.1/\WyOk fc.length z.2.2) (λr hr=>?_) λK hK=>f132_l1_ok K hK _ 0 rr oM oM hr);refine Sat.letk (λK:Wy->Option (Rgs×Pl2×Wy)=>∀w,WyOk fc.length w->Sat (K w) λz=>PlOk rg sl z.2.1/\WyOk fc.length z.2.2) (λw hw=>?_) λK hK=>Sat.cond (λ_=>Sat.pure ⟨hp,hw⟩) λ_=>?_;refine Sat.cond (λh46=>?_) λ_=>Sat.cond (λh49=>?_) λ_=>Sat.cond (λ_=>Sat.bind (f153_ok hw hd hr (w6 oM oM)) λr h=>Sat.pure ⟨hp,h⟩) λ_=>Sat.cond (λ_=>Sat.bind (f123_ok hw _ hr) λr h=>Sat.pure ⟨hp,h⟩) λ_=>Sat.cond (λh50=>?_) λ_=>Sat.bind (f123_ok hw _ hr) λr h=>Sat.pure ⟨hp,h⟩;rw[decide_eq_true_eq] at h46;rw[f101_e1,bnS];exact Sat.bind (f153_ok hw (hx.r.a oM) hr (J_i6 (rAt hr0 h15).2 (w6 oM oM))) λr h=>Sat.pure ⟨hp,h⟩;grind [Sat.bind,f160_ok,f153_ok,w6,Sat.pure];rw[decide_eq_true_eq] at h50;obtain⟨s,hs⟩:=hx.sel h50;have:=hb.alts s (cO hs);rw[hs,bnS];exact Sat.bind (f123_ok hw _ hr) λw hw=>f132_l2_ok hp hr s oM _ 0 w oM sM hw;refine Sat.letk (λK2:Bool->Option (Rgs×Pl2×Wy)=>∀c,Sat (K2 c) λz=>PlOk rg sl z.2.1/\WyOk fc.length z.2.2) (λc=>?_) λK2 hK2=>Sat.cond (λ_=>hK2 _) λ_=>Sat.cond (λ_=>hK2 _) λ_=>Sat.cond (λ_=>hK2 _) λ_=>hK2 _;exact Sat.cond (λ_=>Sat.bind (f102_ok hw hb.handlers _) λr h=>hK r h) λ_=>hK _ hw
def vb(o:Int):Nat:=if o=3\/o=5\/o=7 then 124 else if o=4\/o=6\/o=8 then 125 else if 9<=o/\o<=26 then 126 else if o=27\/o=28 then 127 else if 29<=o/\o<=32 then 128 else if o=33\/o=34\/o=35 then 129 else if¬(42<=o/\o<58)\/o=42\/o=43 then 131 else 132
theorem rX{α:Type}{p:Prop}[Decidable p]{b:Bool}(a c:α)(h:b=true↔p):(bif b then a else c)=if p then a else c:=by grind
theorem f103_eq(wy:Wy)(pl:Pl2)(o:Int):f103 t rg fc sl pc rr pl wy o=some (vb o):=by unfold f103 vb f130;rw[rX (p:=o=3\/o=5\/o=7) _ _ (by simp[or_assoc]),rX (p:=o=4\/o=6\/o=8) _ _ (by simp[or_assoc]),rX (p:=9<=o/\o<=26) _ _ sM,rX (p:=o=27\/o=28) _ _ sM,rX (p:=29<=o/\o<=32) _ _ sM,rX (p:=o=33\/o=34\/o=35) _ _ (by simp[or_assoc]),rX (p:=¬(42<=o/\o<58)\/o=42\/o=43) _ _ (by simp[or_assoc];omega)];grind
theorem xP(hx:IOk t x)(hb:Bdt t)(he:t.excs<=64)(hs:Sh t.objs rg sl){wy:Wy}(hw:WyOk fc.length wy)(hr:RNe rr):Sat (fm (vb x.op) t rg fc sl pc rr [] wy x) (λz=>PlOk rg sl z.2.1/\WyOk fc.length z.2.2):=by have ho:=hx.r.o;have hp:PlOk rg sl []:=PlOk.nil;unfold fm vb;split;exact Sat.bind (f124_ok hx oM hs hw hr) λz h=>Sat.pure ⟨hp,h⟩;split;exact Sat.bind (f125_ok hx oM hs hw hr hp) λz h=>Sat.pure h;split;exact Sat.bind (f126_ok hx oM hw hr) λz h=>Sat.pure ⟨hp,h⟩;split;exact Sat.bind (f127_ok hx oM hb.handlers hw hr) λz h=>Sat.pure ⟨hp,h⟩;split;exact Sat.bind (f128_ok hx oM hw hr) λz h=>Sat.pure ⟨hp,h⟩;split;exact Sat.bind (f129_ok hx oM hb.handlers hw hr) λz h=>Sat.pure ⟨hp,h⟩;split;exact Sat.bind (f131_ok hx oM hb.handlers he hw hr) λz h=>Sat.pure ⟨hp,h⟩;exact Sat.bind (f132_ok hx oM hb he hs hw hr hp) λz h=>Sat.pure h
end
section
variable{t:ah}{rg:List aa}{fc fd:List am}{sl:List (List aa)}{pc:Int}
theorem qA(hl:fc.length=fd.length):f123 t rg fc=f123 t rg fd:=by funext a b c d e f g;unfold f123;rw[hl]
theorem sZ:f156 t rg fc=f156 t rg fd:=rfl
theorem lX(hl:fc.length=fd.length):f153 t rg fc=f153 t rg fd:=by funext a b c d e f g;unfold f153;rw[qA hl]
theorem xR(hl:fc.length=fd.length):f159 t rg fc=f159 t rg fd:=by funext a b c d e f g h;unfold f159;rw[qA hl]
theorem vU(hl:fc.length=fd.length):f102 t rg fc=f102 t rg fd:=by funext a b c d e f;unfold f102;simp only[qA hl]
theorem ec91(hl:fc.length=fd.length):f124 t rg fc=f124 t rg fd:=by funext a b c d e f;unfold f124;simp only[lX hl]
theorem vT(rr:Rgs)(wy:Wy)(x:aG)(g:aa)(K:Pl2->Option (Rgs×Pl2×Wy)):∀(n:Nat)(k:Int)(p:Pl2),f125_l1 t rg fc sl pc rr wy x g K n k p=f125_l1 t rg fd sl pc rr wy x g K n k p
 |0,_,_=>rfl
 |n+1,k,p=>by
  rw[f125_l1,f125_l1,sZ (fc:=fc) (fd:=fd)];have ih:=vT rr wy x g K n;simp only[ih]
theorem vS(rr:Rgs)(wy:Wy)(x:aG)(K:Bool->Pl2->Option (Rgs×Pl2×Wy)):∀(n:Nat)(c:Bool)(k:Int)(p:Pl2),f125_l2 t rg fc sl pc rr wy x K n c k p=f125_l2 t rg fd sl pc rr wy x K n c k p
 |0,_,_,_=>rfl
 |n+1,c,k,p=>by
  rw[f125_l2,f125_l2,sZ (fc:=fc) (fd:=fd)];have ih:=vS rr wy x K n;simp only[ih]
theorem ec92(hl:fc.length=fd.length):f125 t rg fc=f125 t rg fd:=by funext a b c d e f;unfold f125;simp only[lX hl,qA hl,sZ (fc:=fc) (fd:=fd)];obtain⟨N,hN⟩:∃N,N=9223372036854775808:=⟨_,rfl⟩;simp only[<-hN];simp only[vT (fc:=fc) (fd:=fd),vS (fc:=fc) (fd:=fd)]
theorem ec93(hl:fc.length=fd.length):f126 t rg fc=f126 t rg fd:=by funext a b c d e f;unfold f126;simp only[lX hl]
theorem ec94(hl:fc.length=fd.length):f127 t rg fc=f127 t rg fd:=by funext a b c d e f;unfold f127;simp only[lX hl,vU hl]
theorem vR(hl:fc.length=fd.length)(rr:Rgs)(pl:Pl2)(x:aG)(l:Int)(K:Wy->Option Wy):∀(n:Nat)(k:Int)(w:Wy),f128_l1 t rg fc sl pc rr pl x l K n k w=f128_l1 t rg fd sl pc rr pl x l K n k w
 |0,_,_=>rfl
 |n+1,k,p=>by
  rw[f128_l1,f128_l1,xR hl];have ih:=vR hl rr pl x l K n;simp only[ih]
theorem ec95(hl:fc.length=fd.length):f128 t rg fc=f128 t rg fd:=by funext a b c d e f;unfold f128;simp only[lX hl,xR hl,qA hl,vR hl]
theorem ec96(hl:fc.length=fd.length):f129 t rg fc=f129 t rg fd:=by funext a b c d e f;unfold f129;simp only[lX hl,vU hl]
theorem ec98(hl:fc.length=fd.length):f131 t rg fc=f131 t rg fd:=by funext a b c d e f;unfold f131;simp only[lX hl,vU hl,qA hl]
theorem sW(rr:Rgs)(wy:Wy)(o:Int)(K:Pl2->Option Pl2)(row:List aa):∀(n:Nat)(k:Int)(p:Pl2),f160_l3 t rg fc sl pc rr wy o K row n k p=f160_l3 t rg fd sl pc rr wy o K row n k p
 |0,_,_=>rfl
 |n+1,k,p=>by
  rw[f160_l3,f160_l3,sZ (fc:=fc) (fd:=fd)];have ih:=sW rr wy o K row n;simp only[ih]
theorem sX(rr:Rgs)(wy:Wy)(K:Pl2->Int->Int->Option Pl2)(v:aa):∀(n:Nat)(k:Int)(p:Pl2),f160_l2 t rg fc sl pc rr wy K v n k p=f160_l2 t rg fd sl pc rr wy K v n k p
 |0,_,_=>rfl
 |n+1,k,p=>by
  rw[f160_l2,f160_l2];have ih:=sX rr wy K v n;simp only[ih,sW (fc:=fc) (fd:=fd)]
theorem sY(rr:Rgs)(wy:Wy)(x:aG)(e:cq):∀(n:Nat)(k:Int)(p:Pl2),f160_l1 t rg fc sl pc rr wy x e n k p=f160_l1 t rg fd sl pc rr wy x e n k p
 |0,_,_=>rfl
 |n+1,k,p=>by
  obtain⟨N,hN⟩:∃N,N=9223372036854775808:=⟨_,rfl⟩;rw[f160_l1,f160_l1];have ih:=sY rr wy x e n;simp only[<-hN];simp only[ih,sX (fc:=fc) (fd:=fd)]
theorem ec123:f160 t rg fc=f160 t rg fd:=by funext a b c d e f;unfold f160;simp only[sY (fc:=fc) (fd:=fd)]
theorem vQ(hl:fc.length=fd.length)(pl:Pl2)(r:Rgs)(s:bU):∀(n:Nat)(k:Int)(w:Wy),f132_l2 t rg fc sl pc pl r s n k w=f132_l2 t rg fd sl pc pl r s n k w
 |0,_,_=>rfl
 |n+1,k,p=>by
  rw[f132_l2,f132_l2,qA hl];have ih:=vQ hl pl r s n;simp only[ih]
theorem ec99(hl:fc.length=fd.length):f132 t rg fc=f132 t rg fd:=by funext a b c d e f;unfold f132;simp only[lX hl,vU hl,qA hl,ec123 (fc:=fc) (fd:=fd),vQ hl]
theorem ecfm(hl:fc.length=fd.length)(n:Nat):fm n t rg fc=fm n t rg fd:=by funext a b c d e f;unfold fm;rw[ec91 hl,ec92 hl,ec93 hl,ec94 hl,ec95 hl,ec96 hl,ec98 hl,ec99 hl]
end
def oA(t:ah)(rg:List aa)(fc:List am)(sl:List (List aa))(a:Int)(r:Rgs)(x:aG):Option (Pl2×Wy):=
 (f102 t rg fc sl a r [] [] true).bind λw=>(fm (vb x.op) t rg fc sl a r [] w x).bind λz=>some (z.2.1,z.2.2)
theorem uG{t:ah}{rg:List aa}{fc fd:List am}(hl:fc.length=fd.length):oA t rg fc=oA t rg fd:=by funext a b c d;unfold oA;rw[vU hl,ecfm hl]
def Isub(x y:aa):Prop:=y.lo<=x.lo/\x.hi<=y.hi
theorem Isub.refl(x:aa):Isub x x:=⟨Int.le_refl _,Int.le_refl _⟩
theorem Isub.trans{x y z:aa}(h:Isub x y)(g:Isub y z):Isub x z:=⟨Int.le_trans g.1 h.1,Int.le_trans h.2 g.2⟩
def gU(w:Bool)(m x v:aa):aa:=if f38 v x=true then x else bif w then W x (J x v) m else J x v
theorem f38_sub{v x:aa}(hv:Ne v):f38 v x=true↔Isub v x:=by unfold Ne at hv;rw[f38_iff];unfold Li Isub;constructor;intro h;omega;intro h;omega
def pv(m x:aa):Nat:=(if x.lo<=-9223372036854775808 then 0 else if x.lo<=m.lo then 1 else 2)+(if 9223372036854775807<=x.hi then 0 else if m.hi<=x.hi then 1 else 2)
theorem xE(m x:aa):pv m x<=4:=by unfold pv;split<;>split<;>(try split)<;>(try split)<;>omega
theorem sy{m x y:aa}(h:Isub x y):pv m y<=pv m x:=by
 unfold Isub at h;unfold pv;have h1:(if y.lo<=-9223372036854775808 then 0 else if y.lo<=m.lo then 1 else 2)<=(if x.lo<=-9223372036854775808 then 0 else if x.lo<=m.lo then 1 else 2):=by grind
 grind
theorem W_sub{a b m:aa}(hb:I6 b)(h:Isub a b):Isub b (W a b m):=by grind [Isub,I6,W]
theorem W_ne{a b m:aa}(ha:Ne a)(hb:Ne b)(hm:I6 m)(h:Isub a b):Ne (W a b m):=by grind [Ne,I6,Isub,W]
theorem W_in{a b m:aa}(h1:Isub a m)(h2:Isub b m):Isub (W a b m) m:=by grind [Isub,W]
theorem W_pv{a b m:aa}(hb:I6 b)(h:Isub a b)(hne:a.lo≠b.lo\/a.hi≠b.hi):pv m (W a b m)<pv m a:=by
 unfold Isub I6 at*
 have h1:(if(W a b m).lo<=-9223372036854775808 then 0 else if(W a b m).lo<=m.lo then 1 else 2)+(if a.lo=b.lo then 0 else 1)<=(if a.lo<=-9223372036854775808 then 0 else if a.lo<=m.lo then 1 else 2):=by unfold W;dsimp only;by_cases q1:a.lo<=b.lo;grind;grind
 have h2:(if 9223372036854775807<=(W a b m).hi then 0 else if m.hi<=(W a b m).hi then 1 else 2)+(if a.hi=b.hi then 0 else 1)<=(if 9223372036854775807<=a.hi then 0 else if m.hi<=a.hi then 1 else 2):=by unfold W;dsimp only;by_cases q1:a.hi>=b.hi;grind;grind
 grind [pv]
structure GU(w:Bool)(m x v:aa):Prop where
 ne:Ne (gU w m x v)
 x_:Isub x (gU w m x v)
 v_:Isub v (gU w m x v)
 in_:Isub x m->Isub v m->Isub (gU w m x v) m
 lt:w=true->f38 v x=false->pv m (gU w m x v)<pv m x
theorem qu{w:Bool}{m x v:aa}(hx:Ne x)(hv:Ne v)(hm:I6 m):GU w m x v:=by
 by_cases h:f38 v x=true;have e:gU w m x v=x:=by unfold gU;rw[if_pos h]
 refine⟨by rw[e];exact hx,by rw[e];exact Isub.refl _,by rw[e];exact(f38_sub hv).1 h,λa _=>by rw[e];exact a,λ_ h2=>by rw[h] at h2;cases h2⟩;obtain⟨j1,j2,j3,j4,j5,j6,j7⟩:=gZ x v hx hv;have hs:¬Isub v x:=by grind [f38_sub]
 cases w with
 |false=>
  have e:gU false m x v=J x v:=by grind [gU]
  refine⟨by rw[e];exact j1,by rw[e];exact⟨j2,j4⟩,by rw[e];exact⟨j3,j5⟩,λa b=>?_,λh=>by cases h⟩;grind [Isub]
 |true=>
  have e:gU true m x v=W x (J x v) m:=by grind [gU]
  have s1:Isub x (J x v):=⟨j2,j4⟩;have s2:Isub v (J x v):=⟨j3,j5⟩;have s3:=W_sub (m:=m) j1.2 s1;refine⟨by rw[e];exact W_ne hx j1 hm s1,by rw[e];exact s1.trans s3,by rw[e];exact s2.trans s3,λa b=>?_,λ_ _=>?_⟩;grind [W_in,Isub];rw[e];refine W_pv j1.2 s1 ?_;grind [Isub]
theorem GU.le{w:Bool}{m x v:aa}(h:GU w m x v):pv m (gU w m x v)<=pv m x:=sy h.x_
theorem mf{w:Bool}{m x v:aa}(h:f38 v x=true):gU w m x v=x:=by unfold gU;rw[if_pos h]
theorem gr{α:Type}{L:List α}{i:Nat}{x:α}(h:L[i]? =some x):L.set i x=L:=by apply List.ext_getElem?;grind
theorem kh{α:Type}{L:List α}{i:Int}{x y:α}(h:idx L i=some x):idx (L.set i.toNat y) i=some y:=by grind [idx]
theorem eJ{α:Type}{L:List α}{i j:Int}{x y:α}(h:idx L i=some x)(hj:0<=j)(hne:i≠j):idx (L.set i.toNat y) j=idx L j:=by grind [idx]
theorem f104m_eq{S:List (List aa)}{v m:aa}{w:Bool}{o k:Int}{row:List aa}{x:aa}(h1:idx S o=some row)(h2:idx row k=some x)(hx:Ne x)(hv:Ne v):f104m S v m w o k=some (!f38 v x,S.set o.toNat (row.set k.toNat (gU w m x v))):=by
 unfold f104m;rw[h1,bnS,h2,bnS];cases h:f38 v x with
 |true=>grind [mf,gr,bg]
 |false=>
  have hJ:=gZ x v hx hv;simp only[aw,bnS,h2,f101_e1];have e:gU w m x v=bif w then W x (J x v) m else J x v:=by grind [gU]
  cases w with
  |true=>rw[cdT,f133_eq _ _ _ hx hJ.1,bnS,e];rfl
  |false=>rw[cdF,e];rfl
theorem qh{rg:List aa}{w c:Bool}{S:List (List aa)}{p:(Int×Int)×aa}{row:List aa}{x g:aa}(h1:idx S p.1.1=some row)(h2:idx row p.1.2=some x)(h3:idx rg p.1.1=some g)(hx:Ne x)(hv:Ne p.2):f70_m2 rg w p (c,S)=some (c|| !f38 p.2 x,S.set p.1.1.toNat (row.set p.1.2.toNat (gU w g x p.2))):=by grind [f70_m2,f104m_eq,f38]
def MB:aa:=⟨-2147483648,2147483647⟩
theorem tq:I6 MB:=by unfold I6 MB;dsimp only;omega
def gR(w:Bool)(r v:Rgs)(i:Nat):Rgs:=λq=>if q<i then gU w MB (r q) (v q) else r q
def lg(r v:Rgs):Nat->Bool
 |0=>false
 |i+1=>lg r v i|| !f38 (v i) (r i)
theorem xb(w:Bool)(r v:Rgs)(i:Nat):bn (gR w r v i) i (gU w MB (r i) (v i))=gR w r v (i+1):=by funext q;unfold bn gR;by_cases h:q=i;grind [Nat.beq_refl];grind [nbE]
theorem xO(w:Bool)(r v:Rgs)(i:Nat):gR w r v i i=r i:=by unfold gR;rw[if_neg oM]
theorem tF(r:Rgs)(i:Nat):bn r i (r i)=r:=by
 funext q;unfold bn;cases hb:Nat.beq q i with
 |true=>rw[nbE hb];rfl
 |false=>rfl
theorem f104e_eq{F:List am}{v:aa}{w:Bool}{a:Int}{q:Nat}{f:am}(hq:q<16)(h1:idx F a=some f)(hx:Ne (f.r q))(hv:Ne v):f104e F v (f39 (-2147483648) 2147483647) w a (q:Int)=some (!f38 v (f.r q),F.set a.toNat (am.mk f.reached (bn f.r q (gU w MB (f.r q) v)))):=by
 unfold f104e;rw[bR _ (l7 hq),h1,bnS,Int.toNat_natCast];cases h:f38 v (f.r q) with
 |true=>rw[cdT,mf h,tF,gr (bg h1)];rfl
 |false=>
  have hJ:=gZ (f.r q) v hx hv;rw[cdF,bR _ (l7 hq),bnS,f101_e1,bnS];simp only[aw,bnS];rw[bR _ (l7 hq)];have e:gU w MB (f.r q) v=bif w then W (f.r q) (J (f.r q) v) MB else J (f.r q) v:=by grind [gU]
  cases w with
  |true=>rw[cdT,f133_eq _ _ _ hx hJ.1,bnS,bR _ (l7 hq),e];rfl
  |false=>rw[cdF,bR _ (l7 hq),e];rfl
theorem xI(w:Bool)(a:Int)(p:Int×Rgs)(F:List am)(f:am)(h1:idx F p.1=some f)(hx:RNe f.r)(hv:RNe p.2)(c:Bool):∀(n i:Nat),i<=16->16<n+i->f70_l4 w a p n (c||lg f.r p.2 i) (i:Int) (F.set p.1.toNat (am.mk f.reached (gR (w&&decide (p.1<=a)) f.r p.2 i)))=some (c||lg f.r p.2 16,F.set p.1.toNat (am.mk f.reached (gR (w&&decide (p.1<=a)) f.r p.2 16)))
 |0,i,_,h=>oM
 |n+1,i,hi,h=>by
  rw[f70_l4];by_cases hh:i<16;rw[dcT oM,cdT];simp only[aw];rw[bR _ (l7 hh),bR _ (l7 hh),wN oM,Int.toNat_natCast];have hr:∀_:Bool,(am.mk f.reached (gR (w&&decide (p.1<=a)) f.r p.2 i)).r i=f.r i:=λ_=>xO _ _ _ _;have key:=λw':Bool=>f104e_eq (F:=F.set p.1.toNat (am.mk f.reached (gR (w&&decide (p.1<=a)) f.r p.2 i))) (v:=p.2 i) (w:=w') (a:=p.1) hh (kh h1) (by rw[hr true];exact hx i hh) (hv i hh);simp only[xO,List.set_set] at key;have ih:=xI w a p F f h1 hx hv c n (i+1) oM oM;rw[lg,<-Bool.or_assoc,<-xb] at ih;cases w with
  |true=>grind
  |false=>grind
  grind
def U3(w:Bool)(a:Int)(p:Int×Rgs)(f:am):am:=bif f.reached then⟨true,gR (w&&decide (p.1<=a)) f.r p.2 16⟩ else⟨true,p.2⟩
def ch3(p:Int×Rgs)(f:am):Bool:=bif f.reached then lg f.r p.2 16 else true
theorem w9(w:Bool)(r v:Rgs):gR w r v 0=r:=by funext q;unfold gR;rw[if_neg oM]
theorem nZ{w:Bool}{a:Int}{c:Bool}{F:List am}{p:Int×Rgs}{f:am}(h1:idx F p.1=some f)(hx:f.reached=true->RNe f.r)(hv:RNe p.2):f70_m3 w a p (c,F)=some (c||ch3 p f,F.set p.1.toNat (U3 w a p f)):=by
 unfold f70_m3 U3 ch3;dsimp only;rw[h1,bnS];cases h:f.reached with
 |false=>simp
 |true=>have:=xI w a p F f h1 (hx h) hv c (Int.toNat (16 - 0)+1) 0 oM sM;rw[w9,lg,Bool.or_false,gr (bg (by rw[h1])),h] at this;exact this
theorem gI{ε σ β:Type}{L:List ε}{step:ε->σ->Option σ}{K:σ->Option β}{s s':σ}(h:∀l,l.Perm L->ed step l s=some s'):gJ L step K s=K s':=by
 cases hK:K s' with
 |some r=>exact tN λl hl=>by rw[h l hl,bnS,hK]
 |none=>
  cases hr:gJ L step K s with
  |none=>rfl
  |some r=>have:=mw hr L (List.Perm.refl _);rw[h L (List.Perm.refl _),bnS,hK] at this;cases this
theorem oa{ε σ κ:Type}(key:ε->κ)(step:ε->σ->Option σ)(I:σ->Prop)(P:ε->Prop)(h1:∀x,P x->∀s,I s->∃s',step x s=some s'/\I s')(h2:∀x y,P x->P y->key x≠key y->∀s,I s->(step x s).bind (step y)=(step y s).bind (step x)){l L:List ε}(hp:l.Perm L):(L.map key).Nodup->(∀x∈L,P x)->∀s,I s->ed step l s=ed step L s:=by
 induction hp with
 |nil=>intro _ _ s _;rfl
 |cons x hp ih=>intro hn hP s hs;obtain⟨s',e,hs'⟩:=h1 x (hP x List.mem_cons_self) s hs;rw[ed,ed,e,bnS,bnS];rw[List.map_cons,List.nodup_cons] at hn;exact ih hn.2 (λy hy=>hP y (List.mem_cons_of_mem _ hy)) s' hs'
 |swap x y l=>
  intro hn hP s hs;have hx:=hP x List.mem_cons_self;have hy:=hP y (List.mem_cons_of_mem _ List.mem_cons_self);have hne:key x≠key y:=by rw[List.map_cons,List.nodup_cons] at hn;intro e;apply hn.1;rw[e];exact List.mem_cons_self
  have:=h2 x y hx hy hne s hs;simp only[ed];rw[<-Option.bind_assoc,<-this,Option.bind_assoc]
 |trans p1 p2 ih1 ih2=>intro hn hP s hs;exact(ih1 ((p2.map key).nodup_iff.2 hn) (λx hx=>hP x (p2.mem_iff.1 hx)) s hs).trans (ih2 hn hP s hs)
theorem or3(c a b:Bool):((c||a)||b)=((c||b)||a):=by cases c<;>cases a<;>cases b<;>rfl
structure P2(os:List Obj)(rg:List aa)(p:(Int×Int)×aa):Prop where
 h:∃o g,idx os p.1.1=some o/\idx rg p.1.1=some g/\0<=p.1.2/\p.1.2<o.size/\Ne p.2/\Isub p.2 g
theorem PlOk.p2{os:List Obj}{rg:List aa}{S:List (List aa)}(hs:Sh os rg S){pl:Pl2}(h:PlOk rg S pl):∀p∈pl,P2 os rg p:=λp hp=>by
 obtain⟨r,g,q1,q2,q3,q4,q5,q6,q7⟩:=h.at_ p hp;obtain⟨o,ho,_⟩:=aI (L:=os) (i:=p.1.1) ⟨(db q1).1,by rw[<-hs.sl_];exact(db q1).2⟩;have:=hs.row _ _ _ (bg q1) (bg ho);exact⟨o,g,ho,q2,q3,oM,q5,q6,q7⟩
theorem Sh.set{os:List Obj}{rg:List aa}{S:List (List aa)}(h:Sh os rg S){o:Int}{row:List aa}{g y:aa}(h1:idx S o=some row)(h3:idx rg o=some g)(hy:Ne y)(hg:Isub y g)(k:Nat):Sh os rg (S.set o.toNat (row.set k y)):=by
 have hl:=db h1;refine⟨h.rl,h.rne,h.ol,h.os1,by rw[List.length_set];exact h.sl_,λi r ob hr ho=>?_,λi r gg v hr hgg hv=>?_⟩;rw[List.getElem?_set] at hr;by_cases e:o.toNat=i;rw[if_pos e,if_pos oM,aK] at hr;rw[<-hr,List.length_set];exact h.row i row ob (by rw[<-e];exact bg h1) ho;rw[if_neg e] at hr;exact h.row i r ob hr ho;rw[List.getElem?_set] at hr;by_cases e:o.toNat=i;rw[if_pos e,if_pos oM,aK] at hr;have e2:gg=g:=by have:=bg h3;rw[e,hgg,aK] at this;exact this
 subst e2;rw[<-hr] at hv;rcases List.mem_or_eq_of_mem_set hv with hv|hv
 exact h.sne i row gg v (by rw[<-e];exact bg h1) hgg hv;rw[hv];exact⟨hy,hg.1,hg.2⟩;rw[if_neg e] at hr;exact h.sne i r gg v hr hgg hv
structure St2(w:Bool)(os:List Obj)(rg:List aa)(p:(Int×Int)×aa)(S:List (List aa))(row:List aa)(x g:aa):Prop where
 h1:idx S p.1.1=some row
 h2:idx row p.1.2=some x
 h3:idx rg p.1.1=some g
 hx:Ne x
 hv:Ne p.2
 gu:GU w g x p.2
 hg:Isub (gU w g x p.2) g
theorem st2(w:Bool){os:List Obj}{rg:List aa}{p:(Int×Int)×aa}{S:List (List aa)}(hs:Sh os rg S)(hp:P2 os rg p):∃row x g,St2 w os rg p S row x g:=by obtain⟨o,g,q1,q2,q3,q4,q5,q6⟩:=hp.h;obtain⟨row,g',r1,r2,r3,r4,r5⟩:=hs.at q1;rw[q2,aK] at r2;subst r2;obtain⟨x,hx,hxm⟩:=aI (L:=row) (i:=p.1.2) ⟨q3,oM⟩;obtain⟨hxn,hx1,hx2⟩:=r5 x hxm;have gu:=qu (w:=w) hxn q5 r4.2;exact⟨row,x,g,r1,hx,q2,hxn,q5,gu,gu.in_ ⟨hx1,hx2⟩ q6⟩
theorem St2.eq{w c:Bool}{os:List Obj}{rg:List aa}{p:(Int×Int)×aa}{S:List (List aa)}{row:List aa}{x g:aa}(h:St2 w os rg p S row x g):f70_m2 rg w p (c,S)=some (c|| !f38 p.2 x,S.set p.1.1.toNat (row.set p.1.2.toNat (gU w g x p.2))):=qh h.h1 h.h2 h.h3 h.hx h.hv
theorem sH{w c:Bool}{os:List Obj}{rg:List aa}{S:List (List aa)}(hs:Sh os rg S){l L:Pl2}(hp:l.Perm L)(hn:(L.map (·.1)).Nodup)(hP:∀p∈L,P2 os rg p):ed (f70_m2 rg w) l (c,S)=ed (f70_m2 rg w) L (c,S):=by
 refine oa (λp=>p.1) (f70_m2 rg w) (λs=>Sh os rg s.2) (P2 os rg) (λp hp s hs=>?_) (λp q hp hq hne s hs=>?_) hp hn hP (c,S) hs;obtain⟨row,x,g,h⟩:=st2 w hs hp;exact⟨_,h.eq,hs.set h.h1 h.h3 h.gu.ne h.hg _⟩;obtain⟨row,x,g,h⟩:=st2 w hs hp;obtain⟨row',x',g',h'⟩:=st2 w hs hq;obtain⟨c,S⟩:=s;rw[h.eq,h'.eq,bnS,bnS];have a0:=db h.h1;have a1:=db h'.h1;have b0:=db h.h2;have b1:=db h'.h2;by_cases e:p.1.1=q.1.1;have er:row'=row:=by have:=h'.h1;rw[<-e,h.h1,aK] at this;exact this.symm
 have eg:g'=g:=by have:=h'.h3;rw[<-e,h.h3,aK] at this;exact this.symm
 subst er;subst eg;have ek:p.1.2≠q.1.2:=λhh=>hne (Prod.ext e hh);rw[qh (p:=q) (row:=row'.set p.1.2.toNat (gU w g' x p.2)) (x:=x') (g:=g') (by rw[<-e];exact kh h.h1) (by rw[eJ h.h2 b1.1 ek];exact h'.h2) h'.h3 h'.hx h'.hv,qh (p:=p) (row:=row'.set q.1.2.toNat (gU w g' x' q.2)) (x:=x) (g:=g') (by rw[e];exact kh h'.h1) (by rw[eJ h'.h2 b0.1 (Ne.symm ek)];exact h.h2) h.h3 h.hx h.hv];rw[e,List.set_set,List.set_set,List.set_comm _ _ oM,or3];rw[qh (p:=q) (row:=row') (x:=x') (g:=g') (by rw[eJ h.h1 a1.1 e];exact h'.h1) h'.h2 h'.h3 h'.hx h'.hv,qh (p:=p) (row:=row) (x:=x) (g:=g) (by rw[eJ h'.h1 a0.1 (Ne.symm e)];exact h.h1) h.h2 h.h3 h.hx h.hv];rw[List.set_comm _ _ oM,or3]
structure FOk(n:Nat)(F:List am):Prop where
 l:F.length=n
 h:∀f∈F,(f.reached=true/\RNe f.r)\/f=⟨false,λ_=>⟨0,0⟩⟩
structure P3(n:Nat)(p:Int×Rgs):Prop where
 r:0<=p.1/\p.1<n
 ne:RNe p.2
theorem WyOk.p3{n:Nat}{wy:Wy}(h:WyOk n wy):∀p∈wy,P3 n p:=λp hp=>⟨h.at_ p hp,h.ne p hp⟩
theorem FOk.ne{n:Nat}{F:List am}(h:FOk n F){f:am}(hf:f∈F)(hr:f.reached=true):RNe f.r:=by
 rcases h.h f hf with h|h
 exact h.2;rw[h] at hr;cases hr
theorem gR_ne{w:Bool}{r v:Rgs}(hr:RNe r)(hv:RNe v)(i:Nat):RNe (gR w r v i):=λq hq=>by
 unfold gR;split;exact(qu (hr q hq) (hv q hq) tq).ne;exact hr q hq
theorem xU{w:Bool}{a:Int}{p:Int×Rgs}{f:am}(hf:f.reached=true->RNe f.r)(hp:RNe p.2):(U3 w a p f).reached=true/\RNe (U3 w a p f).r:=by
 unfold U3;cases h:f.reached with
 |true=>exact⟨rfl,gR_ne (hf h) hp _⟩
 |false=>exact⟨rfl,hp⟩
theorem FOk.set{n:Nat}{F:List am}(h:FOk n F){f:am}(hf:f.reached=true/\RNe f.r)(i:Nat):FOk n (F.set i f):=⟨by rw[List.length_set];exact h.l,λg hg=>by
 rcases List.mem_or_eq_of_mem_set hg with hg|hg
 exact h.h g hg;rw[hg];exact .inl hf⟩
theorem sG{w c:Bool}{a:Int}{n:Nat}{F:List am}(hs:FOk n F){l L:Wy}(hp:l.Perm L)(hn:(L.map (·.1)).Nodup)(hP:∀p∈L,P3 n p):ed (f70_m3 w a) l (c,F)=ed (f70_m3 w a) L (c,F):=by refine oa (λp=>p.1) (f70_m3 w a) (λs=>FOk n s.2) (P3 n) (λp hp s hs=>?_) (λp q hp hq hne s hs=>?_) hp hn hP (c,F) hs;obtain⟨f,hf,hm⟩:=aI (L:=s.2) (i:=p.1) ⟨hp.r.1,by rw[hs.l];exact hp.r.2⟩;exact⟨_,nZ hf (hs.ne hm) hp.ne,hs.set (xU (hs.ne hm) hp.ne) _⟩;obtain⟨c,F⟩:=s;obtain⟨f,hf,hm⟩:=aI (L:=F) (i:=p.1) ⟨hp.r.1,by rw[hs.l];exact hp.r.2⟩;obtain⟨f',hf',hm'⟩:=aI (L:=F) (i:=q.1) ⟨hq.r.1,by rw[hs.l];exact hq.r.2⟩;rw[nZ hf (hs.ne hm) hp.ne,nZ hf' (hs.ne hm') hq.ne,bnS,bnS,nZ (f:=f') (by rw[eJ hf hq.r.1 hne];exact hf') (hs.ne hm') hq.ne,nZ (f:=f) (by rw[eJ hf' hp.r.1 (Ne.symm hne)];exact hf) (hs.ne hm) hp.ne];have:=hp.r.1;have:=hq.r.1;rw[List.set_comm _ _ (by intro e;apply hne;omega),or3]
theorem oH:∀(L:List Nat)(i:Nat)(x y:Nat),L[i]? =some x->(L.set i y).sum+x=L.sum+y
 |[],i,x,y,h=>by simp at h
 |a::L,0,x,y,h=>by
  grind
 |a::L,i+1,x,y,h=>by
  have:=oH L i x y h;grind
def pS:List (List aa)->List aa->Nat
 |r::S,g::G=>(r.map (pv g)).sum+pS S G
 |_,_=>0
theorem u3:∀(S:List (List aa))(G:List aa)(o:Nat)(row row':List aa)(g:aa),S[o]? =some row->G[o]? =some g->pS (S.set o row') G+(row.map (pv g)).sum=pS S G+(row'.map (pv g)).sum
 |[],_,o,_,_,_,h,_=>by simp at h
 |_::_,[],o,_,_,_,_,h=>by simp at h
 |a::S,b::G,0,row,row',g,h,h2=>by
  grind [pS]
 |a::S,b::G,o+1,row,row',g,h,h2=>by
  have:=u3 S G o row row' g h h2;grind [pS]
theorem wH{row:List aa}{k:Nat}{x y g:aa}(h:row[k]? =some x):((row.set k y).map (pv g)).sum+pv g x=(row.map (pv g)).sum+pv g y:=by rw[List.map_set];exact oH _ _ _ _ (by rw[List.getElem?_map,h];rfl)
theorem wO{S:List (List aa)}{G:List aa}{o k:Int}{row:List aa}{x y g:aa}(h1:idx S o=some row)(h2:idx row k=some x)(h3:idx G o=some g):pS (S.set o.toNat (row.set k.toNat y)) G+pv g x=pS S G+pv g y:=by have a:=u3 S G o.toNat row (row.set k.toNat y) g (bg h1) (bg h3);grind [wH,bg]
def s16(r:Rgs):Nat->Nat
 |0=>0
 |i+1=>s16 r i+pv MB (r i)
def pF(f:am):Nat:=bif f.reached then s16 f.r 16 else 65
def pFs(F:List am):Nat:=(F.map pF).sum
theorem oN(r:Rgs):∀i,s16 r i<=4*i
 |0=>Nat.le_refl _
 |i+1=>by have:=oN r i;have:=xE MB (r i);simp only[s16];omega
theorem pF_le(f:am):pF f<=65:=by unfold pF;cases f.reached;exact Nat.le_refl _;have:=oN f.r 16;simp only[cdT];omega
theorem uK:∀(L:List am),(L.map pF).sum<=65*L.length
 |[]=>sM
 |f::L=>by have:=uK L;have:=pF_le f;simp only[List.map_cons,List.sum_cons,List.length_cons];omega
theorem wP{F:List am}{b:Int}{f f':am}(h:idx F b=some f):pFs (F.set b.toNat f')+pF f=pFs F+pF f':=by unfold pFs;rw[List.map_set];exact oH _ _ _ _ (by rw[List.getElem?_map,bg h];rfl)
def RSub(r v:Rgs):Prop:=∀q,q<16->Isub (r q) (v q)
theorem pX{r v:Rgs}(h:RSub r v):∀i,i<=16->s16 v i<=s16 r i
 |0,_=>Nat.le_refl _
 |i+1,hi=>by have:=pX h i oM;have:=sy (m:=MB) (h i oM);simp only[s16];omega
theorem xM{w:Bool}{r v:Rgs}(hr:RNe r)(hv:RNe v):RSub r (gR w r v 16)/\RSub v (gR w r v 16):=by constructor;intro q hq;unfold gR;rw[if_pos hq];exact(qu (hr q hq) (hv q hq) tq).x_;intro q hq;unfold gR;rw[if_pos hq];exact(qu (hr q hq) (hv q hq) tq).v_
theorem xN{r v:Rgs}(hr:RNe r)(hv:RNe v):∀i,i<=16->s16 (gR true r v 16) i+(lg r v i).toNat<=s16 r i
 |0,_=>by simp[s16,lg]
 |i+1,hi=>by
  have ih:=xN hr hv i oM;have g:=qu (w:=true) (hr i oM) (hv i oM) tq;have e:gR true r v 16 i=gU true MB (r i) (v i):=by grind [gR]
  simp only[s16,lg,e];have h1:=g.le;cases h65:f38 (v i) (r i) with
  |true=>grind
  |false=>have h2:=g.lt rfl h65;grind
theorem jM{r v:Rgs}(hv:RNe v):∀i,i<=16->(lg r v i=false↔∀q,q<i->Isub (v q) (r q))
 |0,_=>by simp[lg]
 |i+1,hi=>by
  simp only[lg,Bool.or_eq_false_iff,Bool.not_eq_false',jM hv i oM,f38_sub (hv i oM)];grind
theorem sV{w:Bool}{r v:Rgs}(hv:RNe v)(h:RSub v r)(i:Nat)(hi:i<=16):gR w r v i=r:=by funext q;unfold gR;split;exact mf ((f38_sub (hv q oM)).2 (h q oM));rfl
def In3(F:List am)(p:Int×Rgs):Prop:=∃f,idx F p.1=some f/\f.reached=true/\RSub p.2 f.r
def In2(S:List (List aa))(p:(Int×Int)×aa):Prop:=∃row x,idx S p.1.1=some row/\idx row p.1.2=some x/\f38 p.2 x=true
structure FUp(F F':List am):Prop where
 l:F'.length=F.length
 h:∀b f,idx F b=some f->∃f',idx F' b=some f'/\(f.reached=true->f'.reached=true/\RSub f.r f'.r)
theorem RSub.refl(r:Rgs):RSub r r:=λ_ _=>Isub.refl _
theorem RSub.trans{a b c:Rgs}(h:RSub a b)(g:RSub b c):RSub a c:=λq hq=>(h q hq).trans (g q hq)
theorem FUp.refl(F:List am):FUp F F:=⟨rfl,λb f h=>⟨f,h,λe=>⟨e,RSub.refl _⟩⟩⟩
theorem FUp.trans{F G H:List am}(h:FUp F G)(g:FUp G H):FUp F H:=⟨g.l.trans h.l,λb f hf=>by
 obtain⟨f',h1,h2⟩:=h.h b f hf;obtain⟨f'',h3,h4⟩:=g.h b f' h1;exact⟨f'',h3,λe=>⟨(h4 (h2 e).1).1,(h2 e).2.trans (h4 (h2 e).1).2⟩⟩⟩
theorem In3.up{F F':List am}{p:Int×Rgs}(h:In3 F p)(g:FUp F F'):In3 F' p:=by obtain⟨f,h1,h2,h3⟩:=h;obtain⟨f',h4,h5⟩:=g.h _ f h1;exact⟨f',h4,(h5 h2).1,h3.trans (h5 h2).2⟩
structure St3(w:Bool)(a:Int)(n:Nat)(p:Int×Rgs)(F F':List am):Prop where
 ok:FOk n F'
 up:FUp F F'
 in_:In3 F' p
 le:w=true->pFs F'<=pFs F
 eq:w=true->pFs F'=pFs F->(∀b,b<=a->idx F' b=idx F b)/\∀b f f',idx F b=some f->idx F' b=some f'->f'.reached=f.reached
theorem kg{α:Type}{L:List α}{i j:Int}{x y:α}(h:idx L i=some x):idx (L.set i.toNat y) j=if j=i then some y else idx L j:=by grind [idx]
theorem st3{w:Bool}{a:Int}{n:Nat}{p:Int×Rgs}{F:List am}(hs:FOk n F)(hp:P3 n p)(c:Bool):∃c' F',f70_m3 w a p (c,F)=some (c',F')/\St3 w a n p F F'/\(In3 F p->c'=c/\F'=F):=by
 obtain⟨f,hf,hm⟩:=aI (L:=F) (i:=p.1) ⟨hp.r.1,by rw[hs.l];exact hp.r.2⟩;refine⟨_,_,nZ hf (hs.ne hm) hp.ne,?_,?_⟩;have hu:=xU (w:=w) (a:=a) (hs.ne hm) hp.ne;have hpot:=wP (f':=U3 w a p f) hf;have hsub:f.reached=true->RSub f.r (U3 w a p f).r:=λe=>by
  unfold U3;rw[e];exact(xM (hs.ne hm e) hp.ne).1
 have hple:pF (U3 w a p f)<=pF f:=by
  unfold pF;rw[hu.1];cases e:f.reached with
  |true=>exact pX (hsub e) 16 (Nat.le_refl _)
  |false=>grind [oN,U3]
 refine⟨hs.set hu _,⟨List.length_set,λb g hg=>?_⟩,⟨_,kh hf,hu.1,?_⟩,λ_=>oM,λhw he=>?_⟩;grind [kg,RSub.refl];unfold U3;cases e:f.reached with
 |true=>exact(xM (hs.ne hm e) hp.ne).2
 |false=>exact RSub.refl _
 have hpe:pF (U3 w a p f)=pF f:=oM;cases e:f.reached with
 |false=>grind [pF,oN,U3]
 |true=>
  refine⟨λb hb=>?_,λb g g' hg hg'=>?_⟩;rw[kg hf];by_cases eb:b=p.1;rw[if_pos eb];have hd:decide (p.1<=a)=true:=by grind
  have key:=xN (hs.ne hm e) hp.ne 16 (Nat.le_refl _);have hU:U3 w a p f=⟨true,gR true f.r p.2 16⟩:=by grind [U3]
  unfold pF at hpe;rw[hU,e] at hpe;simp only[cdT] at hpe;have hany:lg f.r p.2 16=false:=by grind
  have hsub2:RSub p.2 f.r:=(jM hp.ne 16 (Nat.le_refl _)).1 hany;rw[hU,sV hp.ne hsub2 16 (Nat.le_refl _),eb,hf,<-e];rw[if_neg eb];grind [kg]
 intro hin;obtain⟨f',h1,h2,h3⟩:=hin;rw[hf,aK] at h1;subst h1;have hU:U3 w a p f=f:=by unfold U3;rw[h2,cdT,sV hp.ne h3 16 (Nat.le_refl _),<-h2]
 have hc:ch3 p f=false:=by unfold ch3;rw[h2,cdT];exact(jM hp.ne 16 (Nat.le_refl _)).2 h3
 grind [gr,bg]
structure All3(w:Bool)(a:Int)(n:Nat)(L:Wy)(F F':List am):Prop where
 ok:FOk n F'
 up:FUp F F'
 in_:∀p∈L,In3 F' p
 le:w=true->pFs F'<=pFs F
 eq:w=true->pFs F'=pFs F->(∀b,b<=a->idx F' b=idx F b)/\∀b f f',idx F b=some f->idx F' b=some f'->f'.reached=f.reached
theorem yP{w:Bool}{a:Int}{n:Nat}:∀(L:Wy)(F:List am)(c:Bool),FOk n F->(∀p∈L,P3 n p)->∃c' F',ed (f70_m3 w a) L (c,F)=some (c',F')/\All3 w a n L F F'/\((∀p∈L,In3 F p)->c'=c/\F'=F)
 |[],F,c,hs,_=>⟨c,F,rfl,⟨hs,FUp.refl _,λ_ h=>(by cases h),λ_=>Nat.le_refl _,λ_ _=>⟨λ_ _=>rfl,λb f f' h h'=>by rw[h,aK] at h';rw[h']⟩⟩,λ_=>⟨rfl,rfl⟩⟩
 |p::L,F,c,hs,hP=>by
  obtain⟨c1,F1,e1,s1,i1⟩:=st3 (w:=w) (a:=a) hs (hP p List.mem_cons_self) c;obtain⟨c2,F2,e2,s2,i2⟩:=yP L F1 c1 s1.ok λq hq=>hP q (List.mem_cons_of_mem _ hq);refine⟨c2,F2,by rw[ed,e1,bnS,e2],⟨s2.ok,s1.up.trans s2.up,λq hq=>?_,λhw=>?_,λhw he=>?_⟩,λh=>?_⟩;rcases List.mem_cons.1 hq with rfl|hq
  exact s1.in_.up s2.up;exact s2.in_ q hq;have:=s1.le hw;have:=s2.le hw;omega;have:=s1.le hw;have:=s2.le hw;have a1:=s1.eq hw oM;have a2:=s2.eq hw oM;refine⟨λb hb=>(a2.1 b hb).trans (a1.1 b hb),λb f f' hf hf'=>?_⟩;obtain⟨g,hg,_⟩:=s1.up.h b f hf;grind;grind
theorem yQ{w:Bool}{os:List Obj}{rg:List aa}:∀(L:Pl2)(S:List (List aa))(c:Bool),Sh os rg S->(∀p∈L,P2 os rg p)->∃c' S',ed (f70_m2 rg w) L (c,S)=some (c',S')/\Sh os rg S'/\(w=true->pS S' rg<=pS S rg)/\(w=true->pS S' rg=pS S rg->S'=S/\∀p∈L,In2 S p)/\((∀p∈L,In2 S p)->c'=c/\S'=S)
 |[],S,c,hs,_=>⟨c,S,rfl,hs,λ_=>Nat.le_refl _,λ_ _=>⟨rfl,λ_ h=>(by cases h)⟩,λ_=>⟨rfl,rfl⟩⟩
 |p::L,S,c,hs,hP=>by
  obtain⟨row,x,g,h⟩:=st2 w hs (hP p List.mem_cons_self);have hpot:=wO (y:=gU w g x p.2) h.h1 h.h2 h.h3;have hle:=h.gu.le;obtain⟨c2,S2,e2,s2,l2,q2,i2⟩:=yQ (w:=w) L _ (c|| !f38 p.2 x) (hs.set h.h1 h.h3 h.gu.ne h.hg p.1.2.toNat) λq hq=>hP q (List.mem_cons_of_mem _ hq);have same:f38 p.2 x=true->S.set p.1.1.toNat (row.set p.1.2.toNat (gU w g x p.2))=S:=λe=>by rw[mf e,gr (bg h.h2),gr (bg h.h1)]
  refine⟨c2,S2,by rw[ed,h.eq,bnS,e2],s2,λhw=>?_,λhw he=>?_,λhin=>?_⟩;have:=l2 hw;omega;have:=l2 hw;cases h65:f38 p.2 x with
  |false=>have:=h.gu.lt hw h65;omega
  |true=>
   have e:=same h65;rw[e] at q2 this hpot;obtain⟨z1,z2⟩:=q2 hw oM;refine⟨z1,λq hq=>?_⟩;rcases List.mem_cons.1 hq with rfl|hq
   exact⟨row,x,h.h1,h.h2,h65⟩;exact z2 q hq
  obtain⟨row',x',y1,y2,y3⟩:=hin p List.mem_cons_self;have er:row'=row:=by rw[h.h1,aK] at y1;exact y1.symm
  subst er;have ex:x'=x:=by rw[h.h2,aK] at y2;exact y2.symm
  simp_all
structure Cx(t:ah):Prop where
 bd:Bdt t
 ex:t.excs<=64
 io:∀x∈t.insns,IOk t x
def Sta(t:ah)(rg:List aa)(a:Int)(F:List am)(S:List (List aa)):Prop:=∀f x z,idx F a=some f->f.reached=true->idx t.insns a=some x->oA t rg F S a f.r x=some z->(∀p∈z.1,In2 S p)/\(∀p∈z.2,In3 F p)
structure Post(t:ah)(rg:List aa)(w:Bool)(i:Int)(F:List am)(S:List (List aa))(F':List am)(S':List (List aa)):Prop where
 ok:FOk t.insns.length F'
 sh:Sh t.objs rg S'
 up:FUp F F'
 le:w=true->pS S' rg+pFs F'<=pS S rg+pFs F
 eq:w=true->pS S' rg+pFs F'=pS S rg+pFs F->S'=S/\(∀b,b<i->idx F' b=idx F b)/\(∀b f f',idx F b=some f->idx F' b=some f'->f'.reached=f.reached)/\∀a,i<=a->Sta t rg a F' S'
theorem uJ{t:ah}{rg:List aa}{w:Bool}(cx:Cx t){fc:List am}(hfc:fc.length=t.insns.length)(k:Bool->List am->List (List aa)->Int->Rgs->Option (Bool×Int×Rgs×List am×List (List aa))):∀(n i:Nat)(c:Bool)(F:List am)(S:List (List aa))(p:Int)(r:Rgs),FOk t.insns.length F->Sh t.objs rg S->i<=t.insns.length->t.insns.length<n+i->∃c' F' S' p' r',f70_l1 t rg fc w k n c (i:Int) F S p r=k c' F' S' p' r'/\Post t rg w i F S F' S'/\((∀a,(i:Int)<=a->Sta t rg a F S)->c'=c/\F'=F/\S'=S)
 |0,i,_,_,_,_,_,_,_,_,h=>oM
 |n+1,i,c,F,S,p,r,hF,hS,hi,h=>by
  have hbn:=cx.bd.n;rw[f70_l1,hfc];by_cases hh:i<t.insns.length;rw[ltT hh,cdT];simp only[aw];obtain⟨f,hf,hfm⟩:=aI (L:=F) (i:=(i:Int)) ⟨oM,by rw[hF.l];omega⟩;rw[hf,bnS,wN oM];cases hr:f.reached with
  |false=>obtain⟨c',F',S',p',r',e,ps,pq⟩:=uJ cx hfc k n (i+1) c F S p r hF hS oM oM;refine⟨c',F',S',p',r',e,⟨ps.ok,ps.sh,ps.up,ps.le,λhw he=>?_⟩,λhst=>pq λa ha=>hst a oM⟩;obtain⟨q1,q2,q3,q4⟩:=ps.eq hw he;refine⟨q1,λb hb=>q2 b oM,q3,λa ha=>?_⟩;by_cases ea:a=(i:Int);subst ea;intro f' x z hf' hr' _ _;have:=q3 _ _ _ hf hf';rw[hr',hr] at this;cases this;exact q4 a oM
  |true=>
   have hrn:=hF.ne hfm hr;obtain⟨x,hx,hxm⟩:=aI (L:=t.insns) (i:=(i:Int)) ⟨oM,oM⟩;obtain⟨w0,e58,hw0⟩:=f102_ok (t:=t) (rg:=rg) (fc:=F) (sl:=S) (pc:=(i:Int)) (rr:=f.r) (pl:=[]) WyOk.nil cx.bd.handlers true;obtain⟨z,efm,hz1,hz2⟩:=xP (rg:=rg) (fc:=F) (sl:=S) (pc:=(i:Int)) (rr:=f.r) (cx.io x hxm) cx.bd cx.ex hS hw0 hrn;have hways:oA t rg F S (i:Int) f.r x=some (z.2.1,z.2.2):=by unfold oA;rw[e58,bnS,efm,bnS]
   rw[Bool.not_true,cdF,bnS,e58,bnS,hx,bnS,f103_eq,bnS,efm,bnS];have hP2:=hz1.p2 hS;have hP3:=hz2.p3;rw[hF.l] at hP3;obtain⟨c1,S1,g1,s1,l1,q1,i1⟩:=yQ (w:=w) z.2.1 S c hS hP2;rw[gI (s':=(c1,S1)) λl hl=>(sH hS hl hz1.nd hP2).trans g1];dsimp only;obtain⟨c2,F1,g2,s2,i2⟩:=yP (w:=w) (a:=(i:Int)) z.2.2 F c1 hF hP3;rw[gI (s':=(c2,F1)) λl hl=>(sG hF hl hz2.nd hP3).trans g2];dsimp only;obtain⟨c',F',S',p',r',e,ps,pq⟩:=uJ cx hfc k n (i+1) c2 F1 S1 (i:Int) z.1 s2.ok s1 oM oM;refine⟨c',F',S',p',r',e,⟨ps.ok,ps.sh,s2.up.trans ps.up,λhw=>?_,λhw he=>?_⟩,λhst=>?_⟩;have:=l1 hw;have:=s2.le hw;have:=ps.le hw;omega;have a1:=l1 hw;have a2:=s2.le hw;have a3:=ps.le hw;obtain⟨b1,b2⟩:=q1 hw oM;obtain⟨b3,b4⟩:=s2.eq hw oM;obtain⟨b5,b6,b7,b8⟩:=ps.eq hw oM;refine⟨b5.trans b1,λb hb=>(b6 b oM).trans (b3 b oM),λb f f' hf hf'=>?_,λa ha=>?_⟩;obtain⟨g,hg,_⟩:=s2.up.h b f hf;exact(b7 b g f' hg hf').trans (b4 b f g hf hg);by_cases ea:a=(i:Int);subst ea;intro f' x' z' hf' hr' hx' hz';rw[b6 _ oM,b3 _ (Int.le_refl _),hf,aK] at hf';subst hf';rw[hx,aK] at hx';subst hx';rw[b5,b1,uG (fd:=F) (by rw[ps.ok.l,hF.l]),hways,aK] at hz';subst hz';rw[b5,b1];exact⟨b2,λp hp=>(s2.in_ p hp).up ps.up⟩;exact b8 a oM;obtain⟨d1,d2⟩:=hst (i:Int) (Int.le_refl _) f x _ hf hr hx hways;obtain⟨j1,j2⟩:=i1 d1;obtain⟨j3,j4⟩:=i2 d2;subst j2;subst j4;obtain⟨k1,k2,k3⟩:=pq λa ha=>hst a oM;exact⟨k1.trans (j3.trans j1),k2,k3⟩
  have:i=t.insns.length:=oM;subst this;rw[dcF oM,cdF];exact⟨c,F,S,p,r,rfl,⟨hF,hS,FUp.refl _,λ_=>Nat.le_refl _,λ_ _=>⟨rfl,λ_ _=>rfl,λb f f' h h'=>by rw[h,aK] at h';rw[h'],λa ha f x z _ _ hx _=>by
   have:=db hx;omega⟩⟩,λ_=>⟨rfl,rfl,rfl⟩⟩
theorem f70_ok{t:ah}{rg:List aa}(w:Bool)(cx:Cx t){F:List am}{S:List (List aa)}(p:Int)(r:Rgs)(hF:FOk t.insns.length F)(hS:Sh t.objs rg S):∃c' F' S' p' r',f70 t rg p r F S w=some (c',p',r',F',S')/\Post t rg w 0 F S F' S'/\((∀a,0<=a->Sta t rg a F S)->c'=false/\F'=F/\S'=S):=by unfold f70;rw[aw];obtain⟨c',F',S',p',r',e,q1,q2⟩:=uJ (w:=w) cx hF.l (λchanged158 lw159 lw160 c014v161 c015v162=>some (changed158,c014v161,c015v162,lw159,lw160)) (Int.toNat ((F.length:Int) - 0)+1) 0 false F S p r hF hS oM (by rw[hF.l];simp);exact⟨c',F',S',p',r',e,q1,q2⟩
structure Rest(t:ah)(rg:List aa)(F:List am)(F':List am)(S':List (List aa)):Prop where
 ok:FOk t.insns.length F'
 sh:Sh t.objs rg S'
 up:FUp F F'
theorem pU{t:ah}{rg:List aa}(cx:Cx t)(k:List am->List (List aa)->Int->Rgs->Option (List am×List (List aa)×Int)):∀(d fuel:Nat)(n:Int)(F:List am)(S:List (List aa))(p:Int)(r:Rgs),FOk t.insns.length F->Sh t.objs rg S->pS S rg+pFs F<=d->4<n->n+d+2<9223372036854775807->d+2<=fuel->∃F' S' p' r',f37_l6 t rg k fuel n F S p r=k F' S' p' r'/\Rest t rg F F' S':=by
 intro d;induction d with
 |zero=>
  intro fuel n F S p r hF hS hd hn hn2 hfu;obtain⟨m,rfl⟩:∃m,fuel=m+2:=⟨fuel - 2,oM⟩;obtain⟨c1,F1,S1,p1,r1,e1,q1,_⟩:=f70_ok true cx p r hF hS;rw[f37_l6,dcT oM,e1,bnS];dsimp only;cases c1 with
  |false=>exact⟨F1,S1,p1,r1,rfl,q1.ok,q1.sh,q1.up⟩
  |true=>have:=q1.le rfl;obtain⟨_,_,_,hst⟩:=q1.eq rfl oM;obtain⟨c2,F2,S2,p2,r2,e2,q2,i2⟩:=f70_ok true cx p1 r1 q1.ok q1.sh;obtain⟨z1,z2,z3⟩:=i2 hst;rw[cdT,w64 (x:=n+1) oM oM,f37_l6,dcT oM,e2,bnS];dsimp only;rw[z1,cdF];exact⟨F2,S2,p2,r2,rfl,q2.ok,q2.sh,q1.up.trans q2.up⟩
 |succ d ih=>
  intro fuel n F S p r hF hS hd hn hn2 hfu;obtain⟨m,rfl⟩:∃m,fuel=m+2:=⟨fuel - 2,oM⟩;obtain⟨c1,F1,S1,p1,r1,e1,q1,_⟩:=f70_ok true cx p r hF hS;rw[f37_l6,dcT oM,e1,bnS];dsimp only;cases c1 with
  |false=>exact⟨F1,S1,p1,r1,rfl,q1.ok,q1.sh,q1.up⟩
  |true=>have hle:=q1.le rfl;rw[cdT,w64 (x:=n+1) oM oM];by_cases he:pS S1 rg+pFs F1=pS S rg+pFs F;obtain⟨_,_,_,hst⟩:=q1.eq rfl he;obtain⟨c2,F2,S2,p2,r2,e2,q2,i2⟩:=f70_ok true cx p1 r1 q1.ok q1.sh;obtain⟨z1,z2,z3⟩:=i2 hst;rw[f37_l6,dcT oM,e2,bnS];dsimp only;rw[z1,cdF];exact⟨F2,S2,p2,r2,rfl,q2.ok,q2.sh,q1.up.trans q2.up⟩;obtain⟨F',S',p',r',e,hr⟩:=ih (m+1) (n+1) F1 S1 p1 r1 q1.ok q1.sh oM oM (by push_cast at hn2;omega) oM;exact⟨F',S',p',r',e,hr.ok,hr.sh,q1.up.trans hr.up⟩
theorem uO{t:ah}{rg:List aa}(cx:Cx t)(k:List am->List (List aa)->Int->Rgs->Option (List am×List (List aa)×Int))(d:Nat)(hB:∀F S,FOk t.insns.length F->Sh t.objs rg S->pS S rg+pFs F<=d)(hd:d<4611686018427387904):∀(j fuel:Nat)(n:Int)(F:List am)(S:List (List aa))(p:Int)(r:Rgs),FOk t.insns.length F->Sh t.objs rg S->5 - n<=j->1<=n->n<=5->d+10<=fuel+n->∃F' S' p' r',f37_l6 t rg k fuel n F S p r=k F' S' p' r'/\Rest t rg F F' S'
 |0,fuel,n,F,S,p,r,hF,hS,hj,h1,h5,hfu=>pU cx k d fuel n F S p r hF hS (hB F S hF hS) oM oM oM
 |j+1,fuel,n,F,S,p,r,hF,hS,hj,h1,h5,hfu=>by
  by_cases e5:n=5;exact pU cx k d fuel n F S p r hF hS (hB F S hF hS) oM oM oM;obtain⟨m,rfl⟩:∃m,fuel=m+1:=⟨fuel - 1,oM⟩;obtain⟨c1,F1,S1,p1,r1,e1,q1,_⟩:=f70_ok false cx p r hF hS;rw[f37_l6,dcF oM,e1,bnS];dsimp only;cases c1 with
  |false=>exact⟨F1,S1,p1,r1,rfl,q1.ok,q1.sh,q1.up⟩
  |true=>rw[cdT,w64 (x:=n+1) oM oM];obtain⟨F',S',p',r',e,hr⟩:=uO cx k d hB hd j m (n+1) F1 S1 p1 r1 q1.ok q1.sh (by push_cast at hj;omega) oM oM (by push_cast at hfu;omega);exact⟨F',S',p',r',e,hr.ok,hr.sh,q1.up.trans hr.up⟩
end Go.Proofs.YtlkhnkpflmpjhaaGreatDoor
