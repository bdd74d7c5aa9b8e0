/- Part of the proof. -/
import Derived.KernelRfl
import Derived.Test.YtoigciljcejeaaaGreatDoorO
set_option linter.all false
set_option maxRecDepth 10000
namespace Go.Proofs.YtoigciljcejeaaaGreatDoor
open Go Go.Sk
open Go.IntKind (i64)
theorem w64{x:Int}(h1: -9223372036854775808<=x)(h2:x<=9223372036854775807):i64.wrap x=x:=by rw[IntKind.wrap_i64];omega
theorem af{α β:Sort _}(k:α)(f:α->β):al k f=f k:=rfl
theorem aZ{α:Type}{L:List α}{i:Nat}(h:i<L.length):idx L (i:Int)=some L[i]:=by unfold idx;rw[dcT (Int.natCast_nonneg i)];simp[h]
theorem j7{α:Type}{L:List α}{i:Nat}:idx L (i:Int)=L[i]? :=by unfold idx;rw[dcT (Int.natCast_nonneg i)];simp
theorem rp{α:Type}{L:List α}{i:Nat}(h:i<L.length):L.drop i=L[i]::L.drop (i+1):=List.drop_eq_getElem_cons h
theorem aq{α:Type}{c:Bool}(o:Option α)(h:c=true):au c o=o:=by rw[h];rfl
theorem vO{i n:Nat}(h:i<n):decide ((i:Int)<(n:Int))=true:=dcT oM
theorem vQ{n:Nat}:decide ((n:Int)<(n:Int))=false:=dcF oM
theorem w1{i n:Nat}(h:i<n)(hl:n<9223372036854775808):i64.wrap ((i:Int)+1)=((i+1:Nat):Int):=by rw[w64 oM oM];push_cast;rfl
theorem eQ{α:Type}{n:Nat}{L M:List α}(hn:n<=100)(hl:L.length+M.length<=1000000):aO n L M=true:=by unfold aO;have:(L.length+M.length)*n<=1000000*100:=Nat.mul_le_mul hl hn;simp only[Bool.and_eq_true,decide_eq_true_eq];exact⟨by unfold maxLen;omega,oM⟩
theorem sg:∀(N:Nat)(l:List Nat),l.Nodup->(∀x∈l,x<N)->l.length<=N
 |0,l,_,h=>by
  cases l with
  |nil=>simp
  |cons x l=>exact absurd (h x sM) oM
 |N+1,l,hn,h=>by
  have h1:=sg N (l.erase N) (hn.erase N) λx hx=>by
   have h2:=(hn.mem_erase_iff).1 hx;have:=h x h2.2;omega
  have h2:l.length<=(l.erase N).length+1:=by rw[List.length_erase];split<;>omega
  omega
theorem aF{κ α:Type}[DecidableEq κ](m:List (κ×α))(k:κ)(v:α)(x:κ):ac (ai m k v) x=if k=x then some v else ac m x:=by
 induction m with
 |nil=>simp[ai,ac]
 |cons p r ih=>unfold ai;by_cases h:p.1=k;rw[if_pos h];unfold ac;by_cases hk:k=x;simp[hk];simp[hk,h];rw[if_neg h];unfold ac;rw[ih];by_cases hk:k=x;subst hk;simp[h];simp[hk]
theorem eP:∀{A B:List Int},A.Pairwise (·<·)->B.Pairwise (·<·)->(∀z,z∈A↔z∈B)->A=B
 |[],[],_,_,_=>rfl
 |[],y::B,_,_,h=>by have:=(h y).2 sM;simp at this
 |x::A,[],_,_,h=>by have:=(h x).1 sM;simp at this
 |x::A,y::B,hA,hB,h=>by
  rw[List.pairwise_cons] at hA hB;have hxy:x=y:=by
   have h1:=(h x).1 sM;have h2:=(h y).2 sM;rcases List.mem_cons.1 h1 with h1|h1
   exact h1;rcases List.mem_cons.1 h2 with h2|h2
   exact h2.symm;have:=hA.1 y h2;have:=hB.1 x h1;omega
  subst hxy;rw[eP hA.2 hB.2 λz=>?_];constructor;intro hz;rcases List.mem_cons.1 ((h z).1 (by simp[hz])) with h1|h1
  subst h1;have:=hA.1 z hz;omega;exact h1;intro hz;rcases List.mem_cons.1 ((h z).2 (by simp[hz])) with h1|h1
  subst h1;have:=hB.1 z hz;omega;exact h1
theorem jb:∀(N:Nat)(p:Nat->Bool),(((List.range N).filter p).map (λn:Nat=>(n:Int))).Pairwise (·<·)
 |N,p=>by
  rw[List.pairwise_map];refine List.Pairwise.filter p ?_;refine List.Pairwise.imp (λh=>?_) List.pairwise_lt_range;omega
abbrev Asc(l:List Int):Prop:=l.Pairwise (·<·)
theorem dM{L M:List Int}(h:L.length+M.length<=1000000):aO 8 L M=true:=eQ dC oM
theorem w1n{i:Nat}(h:i<=1000000):i64.wrap ((i:Int)+1)=((i+1:Nat):Int):=by rw[w64 oM oM];push_cast;rfl
theorem ltb{i n:Nat}(h:i<n):decide ((i:Int)<(n:Int))=true:=dcT oM
theorem ltf{i n:Nat}(h:¬i<n):decide ((i:Int)<(n:Int))=false:=dcF oM
theorem fH{l:List Int}(h:Asc l):l.Nodup:=List.Pairwise.imp (λh=>oM) h
theorem kG{l:List Int}{N:Nat}(hn:l.Nodup)(h:∀z∈l,0<=z/\z<N):l.length<=N:=by
 have:=sg N (l.map Int.toNat) (by
  unfold List.Nodup;rw[List.pairwise_map];refine List.Pairwise.imp_of_mem (λ{a b} ha hb hab=>?_) hn;have:=h a ha;have:=h b hb;omega) (λx hx=>by
   obtain⟨z,hz,rfl⟩:=List.mem_map.1 hx;have:=h z hz;omega)
 simpa using this
def kys{α:Type}(m:List (Int×α)):List Int:=m.map (·.1)
theorem ej{α:Type}{m:List (Int×α)}{k:Int}{v:α}(h:ac m k=some v):(k,v)∈m:=by
 induction m with
 |nil=>cases h
 |cons p r ih=>rw[ac] at h;by_cases hp:p.1=k;rw[if_pos hp] at h;obtain rfl:=inS h;subst hp;exact List.mem_cons_self;rw[if_neg hp] at h;exact List.mem_cons_of_mem _ (ih h)
theorem gi{α:Type}{m:List (Int×α)}{k:Int}:ac m k=none↔k∉kys m:=by
 induction m with
 |nil=>simp[ac,kys]
 |cons p r ih=>rw[ac];by_cases hp:p.1=k;rw[if_pos hp];subst hp;simp[kys];rw[if_neg hp,ih];simp[kys,Ne.symm hp]
theorem oH{α:Type}{m:List (Int×α)}{k:Int}{v:α}(h:k∉kys m):ai m k v=m++ [(k,v)]:=by
 induction m with
 |nil=>rfl
 |cons p r ih=>have h1:¬p.1=k:=λe=>h (by simp[kys,e]);have h2:k∉kys r:=λe=>h (by simp[kys] at e⊢;exact .inr e);rw[ai,if_neg h1,ih h2];rfl
def ct(inn:List (Int×Int))(x:Int):Int:=Option.getD (ac inn x) 0
def mR{α:Type}(N:Nat)(u:Nat->α):List α:=(List.range N).map u
theorem cP{α:Type}(N:Nat)(u:Nat->α):(mR N u).length=N:=by simp[mR]
theorem bE{α:Type}{N:Nat}{u:Nat->α}{a:Nat}(h:a<N):idx (mR N u) (a:Int)=some (u a):=by rw[aZ (by rw[cP];exact h)];simp[mR]
theorem gk{α:Type}{N:Nat}{u:Nat->α}{a:Nat}{v:α}:(mR N u).set a v=mR N λx=>if x=a then v else u x:=by apply List.ext_getElem;simp[mR];intro i h1 h2;simp only[mR,List.length_map,List.length_range] at h2;rw[List.getElem_set];simp only[mR,List.getElem_map,List.getElem_range];by_cases e:a=i;rw[if_pos e,if_pos e.symm];rw[if_neg e,if_neg λe'=>e e'.symm]
theorem di{α:Type}{N:Nat}{u v:Nat->α}(h:∀x,u x=v x):mR N u=mR N v:=by rw[show u=v from funext h]
theorem qB{α:Type}(xs:List α)(F:Nat->Int->Option Int)(p:α->Bool)(hl:xs.length<9223372036854775808)
  (h0:∀n (i:Nat)(h:i<xs.length),F (n+1) (i:Int)=bif p xs[i] then some (i:Int) else F n ((i+1:Nat):Int))
  (h1:∀n,F (n+1) (xs.length:Int)=some (-1)):∀(n i:Nat),i<=xs.length->xs.length<n+i->∃r,F n (i:Int)=some r/\decide (r>=0)=(xs.drop i).any p
 |0,i,_,h=>oM
 |n+1,i,hi,h=>by
  by_cases hh:i<xs.length;rw[rp hh,List.any_cons,h0 n i hh];cases hp:p xs[i] with
  |true=>exact⟨_,rfl,by rw[Bool.true_or];exact dcT oM⟩
  |false=>rw[cdF,Bool.false_or];exact qB xs F p hl h0 h1 n (i+1) oM oM
  have e:i=xs.length:=oM;subst e;exact⟨-1,h1 n,by rw[List.drop_eq_nil_of_le (Nat.le_refl _)];rfl⟩
theorem f13_eq(s:List Int)(cb:Int->Option Bool)(p:Int->Bool)(hc:∀x,cb x=some (p x))(hl:s.length<9223372036854775807):f13 s cb=some (s.any p):=by
 unfold f13 f33;rw[af];obtain⟨r,h1,h2⟩:=qB s (f33_l1 s cb λ_=>some (-1)) p oM (λn i h=>by
  rw[f33_l1,vO h,cdT,aZ h,bnS,hc,bnS,w1 h oM]) (λn=>by rw[f33_l1,vQ,cdF]) (Int.toNat ((s.length:Int) - 0)+1) 0 (Nat.zero_le _) oM
 rw[show((0:Nat):Int)=0 from rfl] at h1;rw[h1,bnS,h2,List.drop_zero]
theorem f70_eq(s:List aj)(cb:aj->Option Bool)(p:aj->Bool)(hc:∀x∈s,cb x=some (p x))(hl:s.length<9223372036854775807):f70 s cb=some (s.any p):=by
 unfold f70 f95;rw[af];obtain⟨r,h1,h2⟩:=qB s (f95_l1 s cb λ_=>some (-1)) p oM (λn i h=>by
  rw[f95_l1,vO h,cdT,aZ h,bnS,hc _ (List.getElem_mem h),bnS,w1 h oM]) (λn=>by rw[f95_l1,vQ,cdF]) (Int.toNat ((s.length:Int) - 0)+1) 0 (Nat.zero_le _) oM
 rw[show((0:Nat):Int)=0 from rfl] at h1;rw[h1,bnS,h2,List.drop_zero]
theorem gF{α:Type}{N:Nat}{u v:Nat->α}(h:∀x,x<N->u x=v x):mR N u=mR N v:=List.map_congr_left λx hx=>h x (List.mem_range.1 hx)
theorem vL{α:Type}{N:Nat}{u:Nat->α}{x:α}:x∈mR N u↔∃i,i<N/\u i=x:=by unfold mR;rw[List.mem_map];constructor;rintro⟨i,h1,h2⟩;exact⟨i,List.mem_range.1 h1,h2⟩;rintro⟨i,h1,h2⟩;exact⟨i,List.mem_range.2 h1,h2⟩
theorem ji{α:Type}{N:Nat}{x:α}:List.replicate N x=mR N λ_=>x:=by unfold mR;rw[List.map_const',List.length_range]
def Nx(n:Nat)(h:Nat->Option Nat)(i:Nat):List Int:=((h i).toList.map λz:Nat=>(z:Int))++if i+1<n then[((i+1:Nat):Int)] else[]
def Bk(n:Nat)(h:Nat->Option Nat):List aj:=mR n λi=>⟨0,0,Nx n h i⟩
structure CG(n:Nat)(h:Nat->Option Nat):Prop where
 pos:0<n
 le:n<=90
 back:∀i z,h i=some z->z<=i/\i<n
 one:∀i j z,h i=some z->h j=some z->i=j
 nest:∀i z j y,h i=some z->h j=some y->z<y->y<=i->j<=i
theorem dK(n:Nat)(h:Nat->Option Nat):(Bk n h).length=n:=cP _ _
theorem gw{n:Nat}(h:Nat->Option Nat){i:Nat}(hi:i<n):idx (Bk n h) (i:Int)=some ⟨0,0,Nx n h i⟩:=bE hi
theorem gv{n:Nat}{h:Nat->Option Nat}{i:Nat}{z:Int}:z∈Nx n h i↔(∃y,h i=some y/\z=(y:Int))\/(i+1<n/\z=((i+1:Nat):Int)):=by unfold Nx;rw[List.mem_append];constructor;rintro(h1|h1);obtain⟨y,hy,rfl⟩:=List.mem_map.1 h1;exact .inl ⟨y,by simpa using hy,rfl⟩;split at h1;rename_i hlt;exact .inr ⟨hlt,by simpa using h1⟩;cases h1;rintro(⟨y,hy,rfl⟩|⟨h1,rfl⟩);exact .inl (List.mem_map.2 ⟨y,by simp[hy],rfl⟩);exact .inr (by rw[if_pos h1];simp)
theorem jy(n:Nat)(h:Nat->Option Nat)(i:Nat):(Nx n h i).length<=2:=by unfold Nx;cases h i<;>split<;>simp
theorem jx{n:Nat}{h:Nat->Option Nat}(g:CG n h){i:Nat}{z:Int}(hz:z∈Nx n h i):∃y:Nat,z=y/\y<n/\y<=i+1:=by
 rcases gv.1 hz with⟨y,h1,h2⟩|⟨h1,h2⟩
 have:=g.back i y h1;exact⟨y,h2,oM,oM⟩;exact⟨i+1,h2,h1,Nat.le_refl _⟩
theorem nB{n:Nat}{h:Nat->Option Nat}(g:CG n h)(i:Nat):Asc (Nx n h i):=by
 unfold Nx;cases hi:h i with
 |none=>split<;>simp
 |some z=>have:=g.back i z hi;split;simp;omega;simp
theorem fk{n:Nat}{h:Nat->Option Nat}(g:CG n h){k:Nat}(hk:k<n):(h k=none/\k+1<n/\Nx n h k=[((k+1:Nat):Int)])\/(h k=none/\k+1=n/\Nx n h k=[])\/(∃z,z<=k/\h k=some z/\k+1<n/\Nx n h k=[(z:Int),((k+1:Nat):Int)])\/(∃z,z<=k/\h k=some z/\k+1=n/\Nx n h k=[(z:Int)]):=by
 unfold Nx;cases hz:h k with
 |none=>by_cases h1:k+1<n;exact .inl ⟨rfl,h1,by simp[h1]⟩;exact .inr (.inl ⟨rfl,oM,by simp[h1]⟩)
 |some z=>have:=g.back k z hz;by_cases h1:k+1<n;exact .inr (.inr (.inl ⟨z,this.1,rfl,h1,by simp[h1]⟩));exact .inr (.inr (.inr ⟨z,this.1,rfl,oM,by simp[h1]⟩))
theorem n7{n:Nat}{h:Nat->Option Nat}(g:CG n h):f36 (Bk n h)=some true:=by
 have hl:=g.le;unfold f36;rw[f70_eq (Bk n h) (λz0=>f71 z0 (Bk n h)) (λ_=>false) (λx hx=>by
  obtain⟨i,hi,rfl⟩:=vL.1 hx;unfold f71;rw[f13_eq _ (λz0=>some (f72 z0 (Bk n h))) (λz=>f72 z (Bk n h)) (λ_=>rfl) (by have:=jy n h i;show(Nx n h i).length<_;omega),bnS,List.any_eq_false.2 (λz hz=>by
   obtain⟨y,rfl,h1,_⟩:=jx g hz;unfold f72;rw[dK,dcF oM,dcF oM];simp)]) (by rw[dK];omega),bnS,List.any_eq_false.2 sM]
 rfl
theorem bef2{n:Nat}(K:List (List Int)->Option (List Int))(x:Int)(b:aj)(hL:∀z∈b.next,∃y:Nat,z=y/\y<n)(hnd:b.next.Nodup)(c:Nat)(hc:c<=1000)(hl:b.next.length<=10):∀(m i:Nat)(B:Nat->List Int),(∀j,(B j).length<=c+i)->i<=b.next.length->b.next.length<m+i->f73_l2 K x b m (i:Int) (mR n B)=K (mR n λj=>B j++if(j:Int)∈b.next.drop i then[(x:Int)] else[])
 |0,i,_,_,_,h=>oM
 |m+1,i,B,hB,hi,hn=>by
  rw[f73_l2];by_cases hlt:i<b.next.length;obtain⟨y,hy,hyn⟩:=hL _ (List.getElem_mem hlt);have hnd':=hnd.sublist (List.drop_sublist i b.next);rw[List.drop_eq_getElem_cons hlt,List.nodup_cons] at hnd';have hg:=hB y;rw[ltb hlt,cdT,aZ hlt,bnS,hy,bE hyn,bnS,aq _ (dM (by simp;omega)),w1n oM,Int.toNat_natCast,gk,bef2 K x b hL hnd c hc hl m (i+1) _ (λj=>by
   have:=hB j;split<;>(try simp)<;>omega) oM oM]
  congr 1;refine di λj=>?_;rw[List.drop_eq_getElem_cons hlt,hy];rw[hy] at hnd';by_cases e:j=y;subst e;rw[if_pos rfl,if_neg hnd'.1,if_pos List.mem_cons_self,List.append_nil];rw[if_neg e];by_cases hm:(j:Int)∈b.next.drop (i+1);rw[if_pos hm,if_pos (List.mem_cons_of_mem _ hm)];rw[if_neg hm,if_neg λh=>by
   rcases List.mem_cons.1 h with h|h
   omega;exact hm h]
  rw[ltf hlt,cdF,List.drop_eq_nil_of_le oM];simp
theorem bef1{n:Nat}{h:Nat->Option Nat}(g:CG n h)(rr:List Int×List Int)(K:List (List Int)->Option (List Int))(hr:∀z∈rr.1,∃y:Nat,z=y/\y<n)(hl:rr.1.length<=900):∀(m i:Nat)(B:Nat->List Int),(∀j,(B j).length<=i)->i<=rr.1.length->rr.1.length<m+i->f73_l1 (Bk n h) rr K m (i:Int) (mR n B)=K (mR n λj=>B j++(rr.1.drop i).filter λx=>decide ((j:Int)∈Nx n h x.toNat))
 |0,i,_,_,_,h=>oM
 |m+1,i,B,hB,hi,hn=>by
  rw[f73_l1];by_cases hlt:i<rr.1.length;obtain⟨y,hy,hyn⟩:=hr _ (List.getElem_mem hlt);have h2:=jy n h y;rw[ltb hlt,cdT,af,aZ hlt,bnS,hy,gw h hyn,bnS];have e:=bef2 (n:=n) (λlw137=>f73_l1 (Bk n h) rr K m (i64.wrap ((i:Int)+1)) lw137) (y:Int) ⟨0,0,Nx n h y⟩ (λz hz=>by obtain⟨w,h1,h2,_⟩:=jx g hz;exact⟨w,h1,h2⟩) (fH (nB g y)) i oM (by show(Nx n h y).length<=10;omega) (Int.toNat (((Nx n h y).length:Int) - 0)+1) 0 B (λj=>by have:=hB j;omega) (Nat.zero_le _) (by show(Nx n h y).length<_;omega);refine Eq.trans e ?_;rw[w1n oM,bef1 g rr K hr hl m (i+1) _ (λj=>by have:=hB j;simp only[List.length_append];split<;>simp<;>omega) oM oM];congr 1;refine di λj=>?_;rw[List.drop_eq_getElem_cons hlt,List.filter_cons,hy,Int.toNat_natCast,List.drop_zero];by_cases hm:(j:Int)∈Nx n h y;rw[if_pos hm,dcT hm,if_pos rfl];simp;rw[if_neg hm,dcF hm,if_neg sM];simp;rw[ltf hlt,cdF,List.drop_eq_nil_of_le oM];simp
theorem vH{n c:Nat}{rr:List Int×List Int}{D:Nat->Int}(hp:rr.2=mR n λj=>((n - 1 - j:Nat):Int))(hc:c<=n)(hD:∀j,1<=j->j<c->D j=((j - 1:Nat):Int))(K:Int->Option (List Int)):∀(m x y:Nat),x<c->y<c->x+y<m->f73_l6 rr (mR n D) K m (x:Int) (y:Int)=K ((min x y:Nat):Int)
 |0,x,y,_,_,h=>oM
 |m+1,x,y,hx,hy,hm=>by
  rw[f73_l6];by_cases e:x=y;subst e;rw[dcT rfl,Bool.not_true,cdF,Nat.min_self];rw[dcF oM,Bool.not_false,cdT,hp,bE oM,bnS,bE oM,bnS];by_cases hlt:y<x;rw[dcT oM,cdT,bE oM,bnS,hD x oM hx,vH hp hc hD K m (x - 1) y oM hy oM];congr 2;omega;rw[dcF oM,cdF,bE oM,bnS,hD y oM hy,vH hp hc hD K m x (y - 1) hx oM oM];congr 2;omega
def Lst(c:Nat)(d:Int)(S:List Int):Prop:=(d= -1/\∀z∈S,(c:Int)<=z)\/(0<=d/\d<c/\d∈S/\∀z∈S,z<(c:Int)->d<=z)
def Dc(c j:Nat):Int:=if j=0 then 0 else if j<c then((j - 1:Nat):Int) else -1
theorem ul{n c k:Nat}{rr:List Int×List Int}(hp:rr.2=mR n λj=>((n - 1 - j:Nat):Int))(hc:c<=n)(hc1:1<=c)(hn:n<=90)(hk:1<=k)(K:Int->Option (List Int))(L:List Int)(hl:L.length<=1000)(hL:∀z∈L,∃y:Nat,z=y/\y<n):∀(m i:Nat)(d:Int),i<=L.length->L.length<m+i->Lst c d (L.take i)->∃d',f73_l5 rr (mR n (Dc c)) (k:Int) K L m d (i:Int)=K d'/\Lst c d' L
 |0,i,_,_,h,_=>oM
 |m+1,i,d,hi,hm,hd=>by
  rw[f73_l5];by_cases hlt:i<L.length;obtain⟨y,hy,hyn⟩:=hL _ (List.getElem_mem hlt);rw[ltb hlt,cdT,af,aZ hlt,bnS,hy,dcF (show¬(k:Int)=0 by omega),cdF,bE hyn,bnS,bnS,w1n oM];have ht:L.take (i+1)=L.take i++ [(y:Int)]:=by rw[List.take_succ_eq_append_getElem hlt,hy]
  by_cases hyc:y<c;have h0:¬Dc c y<0:=by unfold Dc;by_cases h00:y=0;rw[if_pos h00];omega;rw[if_neg h00,if_pos hyc];omega
  rw[dcF h0,cdF];rcases hd with⟨rfl,h1⟩|⟨h1,h2,h3,h4⟩
  rw[dcT oM,cdT];refine ul hp hc hc1 hn hk K L hl hL m (i+1) _ oM oM (.inr ⟨oM,oM,by rw[ht];simp,λz hz hzc=>?_⟩);rw[ht] at hz;rcases List.mem_append.1 hz with hz|hz
  have:=h1 z hz;omega;rw[List.mem_singleton.1 hz];omega;obtain⟨a,rfl⟩:=Int.eq_ofNat_of_zero_le h1;rw[dcF oM,cdF,af,af];obtain⟨F,hF⟩:∃F:Nat,F=9223372036854775808:=⟨_,rfl⟩;rw[<-hF,vH hp hc (λj h1 h2=>by unfold Dc;rw[if_neg oM,if_pos h2]) _ F a y oM hyc oM];refine ul hp hc hc1 hn hk K L hl hL m (i+1) _ oM oM (.inr ⟨oM,oM,?_,λz hz hzc=>?_⟩);rw[ht];by_cases hay:a<=y;rw[Nat.min_eq_left hay];exact List.mem_append_left _ h3;rw[Nat.min_eq_right oM];simp;rw[ht] at hz;rcases List.mem_append.1 hz with hz|hz
  have:=h4 z hz hzc;omega;rw[List.mem_singleton.1 hz];omega;have h0:Dc c y<0:=by unfold Dc;rw[if_neg oM,if_neg hyc];omega
  rw[dcT h0,cdT];refine ul hp hc hc1 hn hk K L hl hL m (i+1) _ oM oM ?_;rcases hd with⟨rfl,h1⟩|⟨h1,h2,h3,h4⟩
  refine .inl ⟨rfl,λz hz=>?_⟩;rw[ht] at hz;rcases List.mem_append.1 hz with hz|hz
  exact h1 z hz;rw[List.mem_singleton.1 hz];omega;refine .inr ⟨h1,h2,by rw[ht];exact List.mem_append_left _ h3,λz hz hzc=>?_⟩;rw[ht] at hz;rcases List.mem_append.1 hz with hz|hz
  exact h4 z hz hzc;rw[List.mem_singleton.1 hz] at hzc;omega;rw[ltf hlt,cdF];refine⟨d,rfl,?_⟩;rwa [List.take_of_length_le oM] at hd
def dsc(n k:Nat):List Int:=((List.range' k (n - k)).map λi:Nat=>(i:Int)).reverse
theorem oU{n k:Nat}(h:k<n):dsc n k=dsc n (k+1)++ [(k:Int)]:=by unfold dsc;obtain⟨d,hd⟩:∃d,n - k=d+1:=⟨n - k - 1,oM⟩;rw[hd,show n - (k+1)=d by omega,List.range'_succ];simp
theorem bX(n k:Nat):(dsc n k).length=n - k:=by simp[dsc]
theorem qC{n k:Nat}{z:Int}:z∈dsc n k↔∃y:Nat,z=y/\k<=y/\y<n:=by unfold dsc;rw[List.mem_reverse,List.mem_map];constructor;rintro⟨y,h1,rfl⟩;have:=List.mem_range'_1.1 h1;exact⟨y,rfl,oM,oM⟩;rintro⟨y,rfl,h1,h2⟩;exact⟨y,List.mem_range'_1.2 oM,rfl⟩
theorem nq{n k:Nat}(h:k<n):idx (dsc n 0) ((n - 1 - k:Nat):Int)=some (k:Int):=by rw[aZ (by rw[bX];omega)];simp only[dsc,List.getElem_reverse,List.getElem_map,List.getElem_range',List.length_map,List.length_range',Nat.sub_zero];congr 2;omega
theorem um{n:Nat}{h:Nat->Option Nat}(g:CG n h){rr:List Int×List Int}(h1:rr.1=dsc n 0)(hp:rr.2=mR n λj=>((n - 1 - j:Nat):Int)){B:Nat->List Int}(hBl:∀j,(B j).length<=1000)(hB:∀j z,z∈B j↔∃y:Nat,z=y/\y<n/\(j:Int)∈Nx n h y)(K:List Int->Bool->Option (List Int)):∀(m k c:Nat)(ag:Bool),k<=n->n<m+k->k<=c->1<=c->c<=n->f73_l4 rr (mR n B) K m ((n:Int) - 1 - k) (mR n (Dc c)) ag=K (mR n (Dc n)) (ag||decide (c<n))
 |0,k,c,ag,_,hm,_,_,_=>oM
 |m+1,k,c,ag,hk,hm,hkc,hc1,hcn=>by
  have hle:=g.le;rw[f73_l4];by_cases hlt:k<n;rw[dcT (show(n:Int) - 1 - k>=0 by omega),cdT,show(n:Int) - 1 - k=((n - 1 - k:Nat):Int) by omega,h1,nq hlt,bnS,af,af,bE hlt,bnS];have e0:∀lw b,f73_l4 rr (mR n B) K m (i64.wrap (((n - 1 - k:Nat):Int) - 1)) lw b=f73_l4 rr (mR n B) K m ((n:Int) - 1 - ((k+1:Nat):Int)) lw b:=λlw b=>by
   rw[w64 oM oM];congr 1;omega
  by_cases hk0:k=0;subst hk0;have e5:∀(Q:Int->Option (List Int))(L:List Int),L.length<=1000->∀(m i:Nat)(d:Int),i<=L.length->L.length<m+i->f73_l5 rr (mR n (Dc c)) ((0:Nat):Int) Q L m d (i:Int)=Q d:=λQ L hL m=>by
   induction m with
   |zero=>intro i d h1 h2;omega
   |succ m ih=>intro i d h1 h2;rw[f73_l5];by_cases hh:i<L.length;rw[ltb hh,cdT,af,aZ hh,bnS,dcT (show((0:Nat):Int)=0 from rfl),cdT,bnS,cdT,w1n oM];exact ih (i+1) d oM oM;rw[ltf hh,cdF]
  have:=e5 (λd189=>Option.bind (bif (!decide (((0:Nat):Int)=0)) then(Option.bind (idx (mR n (Dc c)) ((0:Nat):Int)) λx219=>some (!decide (x219=d189))) else some false) λb218=>
   (bif b218 then Option.bind (idx (mR n (Dc c)) ((0:Nat):Int)) λx220=>
   (f73_l4 rr (mR n B) K m (i64.wrap (((n - 1 - 0:Nat):Int) - 1)) (List.set (mR n (Dc c)) (Int.toNat ((0:Nat):Int)) d189) true) else(f73_l4 rr (mR n B) K m (i64.wrap (((n - 1 - 0:Nat):Int) - 1)) (mR n (Dc c)) ag))) (B 0) (hBl 0) (Int.toNat (((B 0).length:Int) - 0)+1) 0 (-1) (Nat.zero_le _) oM
  refine Eq.trans this ?_;rw[dcT (show((0:Nat):Int)=0 from rfl),Bool.not_true,cdF,bnS,cdF,e0];exact um g h1 hp hBl hB K m 1 c ag oM oM hc1 hc1 hcn;obtain⟨d,hd1,hd2⟩:=ul (n:=n) (c:=c) (k:=k) hp hcn hc1 hle oM (λd189=>Option.bind (bif (!decide ((k:Int)=0)) then(Option.bind (idx (mR n (Dc c)) (k:Int)) λx219=>some (!decide (x219=d189))) else some false) λb218=>
   (bif b218 then Option.bind (idx (mR n (Dc c)) (k:Int)) λx220=>
   (f73_l4 rr (mR n B) K m (i64.wrap (((n - 1 - k:Nat):Int) - 1)) (List.set (mR n (Dc c)) (Int.toNat (k:Int)) d189) true) else(f73_l4 rr (mR n B) K m (i64.wrap (((n - 1 - k:Nat):Int) - 1)) (mR n (Dc c)) ag))) (B k) (hBl k) (λz hz=>by obtain⟨y,h2,h3,_⟩:=(hB k z).1 hz;exact⟨y,h2,h3⟩) (Int.toNat (((B k).length:Int) - 0)+1) 0 (-1) (Nat.zero_le _) oM (.inl ⟨rfl,sM⟩)
  refine Eq.trans hd1 ?_;have hin:((k - 1:Nat):Int)∈B k:=(hB k _).2 ⟨k - 1,rfl,oM,gv.2 (.inr ⟨oM,by congr 1;omega⟩)⟩;have hmin:∀z∈B k,((k - 1:Nat):Int)<=z:=λz hz=>by
   obtain⟨y,rfl,h3,h4⟩:=(hB k z).1 hz;rcases gv.1 h4 with⟨w,h5,h6⟩|⟨h5,h6⟩
   have:=g.back y w h5;omega;omega
  have hdk:d=((k - 1:Nat):Int):=by
   rcases hd2 with⟨_,h2⟩|⟨h2,h3,h4,h5⟩
   have:=h2 _ hin;omega;have:=h5 _ hin oM;have:=hmin _ h4;omega
  rw[dcF (show¬(k:Int)=0 by omega),Bool.not_false,cdT,bE hlt,bnS,bnS,hdk,e0,e0];by_cases hck:k<c;rw[dcT (show Dc c k=((k - 1:Nat):Int) by unfold Dc;rw[if_neg hk0,if_pos hck]),Bool.not_true,cdF];exact um g h1 hp hBl hB K m (k+1) c ag oM oM hck hc1 hcn;have hck':c=k:=oM;subst hck';rw[dcF (show¬Dc c c=((c - 1:Nat):Int) by unfold Dc;rw[if_neg hk0,if_neg oM];omega),Bool.not_false,cdT,bnS,Int.toNat_natCast,gk];have e1:mR n (λx=>if x=c then((c - 1:Nat):Int) else Dc c x)=mR n (Dc (c+1)):=di λx=>by
   unfold Dc;by_cases hx:x=c;subst hx;rw[if_pos rfl,if_neg hk0,if_pos oM];rw[if_neg hx];by_cases hx0:x=0;rw[if_pos hx0,if_pos hx0];rw[if_neg hx0,if_neg hx0];by_cases hxc:x<c;rw[if_pos hxc,if_pos oM];rw[if_neg hxc,if_neg oM]
  rw[e1,um g h1 hp hBl hB K m (c+1) (c+1) true oM oM oM oM oM,Bool.true_or,dcT hlt,Bool.or_true];have:k=n:=oM;subst this;have:c=k:=oM;subst this;rw[dcF (show¬(c:Int) - 1 - c>=0 by omega),cdF,dcF oM,Bool.or_false]
theorem tX:∀n:Fin 100,f77o [-1] (n.val:Int)=some (List.replicate n.val (-1)):=by decide+kernel
theorem sd{n:Nat}(h:n<=99):f77o [-1] (n:Int)=some (List.replicate n (-1)):=tX ⟨n,oM⟩
theorem m8{k n:Nat}(hk:k<=100)(hn:n<=1000000):kM k (n:Int)=true:=by
 unfold kM;have h1:k*n<=100*1000000:=Nat.mul_le_mul hk hn;have h2:((k*n:Nat):Int)<=((100*1000000:Nat):Int):=by exact_mod_cast h1
 rw[Int.natCast_mul] at h2;simp only[Bool.and_eq_true,decide_eq_true_eq];exact⟨⟨oM,oM⟩,by unfold maxLen;omega⟩
section
variable{n:Nat}{rec78:(List aj)->(List Bool)->(List Int)->(List Int)->Int->Option ((List aj)×(List Bool)×(List Int)×(List Int))}{K:(List Bool)->(List Int)->(List Int)->(List aj)->Option ((List aj)×(List Bool)×(List Int)×(List Int))}{b:aj}
theorem rQ{m i z:Nat}{s:Nat->Bool}{a c:List Int}{d:List aj}(hz:idx b.next (i:Int)=some (z:Int))(hi:i<1000)(hn:z<n)(hs:s z=true):f78s_l1 rec78 K b (m+1) (i:Int) (mR n s) a c d=f78s_l1 rec78 K b m ((i+1:Nat):Int) (mR n s) a c d:=by have h1:=(cQ hz);rw[f78s_l1,dcT oM,cdT,af,hz,bnS,bE hn,bnS,hs,Bool.not_true,cdF,w1n oM]
theorem uQ{m i z:Nat}{s:Nat->Bool}{a c:List Int}{d:List aj}{r:(List aj)×(List Bool)×(List Int)×(List Int)}(hz:idx b.next (i:Int)=some (z:Int))(hi:i<1000)(hn:z<n)(hs:s z=false)(hr:rec78 d (mR n s) a c (z:Int)=some r):f78s_l1 rec78 K b (m+1) (i:Int) (mR n s) a c d=f78s_l1 rec78 K b m ((i+1:Nat):Int) r.2.1 r.2.2.1 r.2.2.2 r.1:=by have h1:=(cQ hz);rw[f78s_l1,dcT oM,cdT,af,hz,bnS,bE hn,bnS,hs,Bool.not_false,cdT,hr,bnS,w1n oM]
theorem qg{m:Nat}{s:List Bool}{a c:List Int}{d:List aj}:f78s_l1 rec78 K b (m+1) (b.next.length:Int) s a c d=K s a c d:=by rw[f78s_l1,dcF oM,cdF]
end
theorem qf{n:Nat}{h:Nat->Option Nat}(g:CG n h):∀(d k F:Nat)(pl:Nat->Int),n - k=d->k<n->d<=F->f78 F (Bk n h) (mR n λj=>decide (j<k)) [] (mR n pl) (k:Int)=some (Bk n h,mR n λ_=>true,dsc n k,mR n λj=>if k<=j then((n - 1 - j:Nat):Int) else pl j)
 |0,k,F,pl,hd,hk,hF=>oM
 |d+1,k,0,pl,hd,hk,hF=>oM
 |d+1,k,F+1,pl,hd,hk,hF=>by
  have hle:=g.le;rw[show f78 (F+1)=f78s (f78 F) from rfl];unfold f78s;rw[bE hk,bnS,af,gw h hk,bnS,Int.toNat_natCast,gk];have es:mR n (λx=>if x=k then true else decide (x<k))=mR n (λj=>decide (j<k+1)):=di λx=>by
   by_cases hx:x=k;subst hx;rw[if_pos rfl,dcT oM];rw[if_neg hx];exact decide_eq_decide.2 oM
  rw[es];have ih:=λ(hk1:k+1<n)=>qf g d (k+1) F pl oM hk1 oM;have hdsc:=oU hk;have fin:∀(l:List Int)(pl':Nat->Int),l=dsc n (k+1)->(∀j,j<n->(if j=k then((n - 1 - k:Nat):Int) else pl' j)=if k<=j then((n - 1 - j:Nat):Int) else pl j)->(Option.bind (idx (mR n pl') (k:Int)) λ_=>au (aO 8 l [(k:Int)])<|some (Bk n h,mR n λ_=>true,(l++ [(k:Int)]),(List.set (mR n pl') (Int.toNat (k:Int)) (l.length:Int))))=some (Bk n h,mR n λ_=>true,dsc n k,mR n λj=>if k<=j then((n - 1 - j:Nat):Int) else pl j):=λl pl' hl hp=>by
   subst hl;rw[bE hk,bnS,aq _ (dM (by rw[bX];simp;omega)),Int.toNat_natCast,gk,bX,<-hdsc];congr 3;refine Prod.ext rfl (gF λx hx=>?_);rw[show n - (k+1)=n - 1 - k by omega];exact hp x hx
  have hp1:∀j,j<n->(if j=k then((n - 1 - k:Nat):Int) else if k+1<=j then((n - 1 - j:Nat):Int) else pl j)=if k<=j then((n - 1 - j:Nat):Int) else pl j:=λj hj=>by
   by_cases hx:j=k;subst hx;rw[if_pos rfl,if_pos (Nat.le_refl _)];rw[if_neg hx];by_cases h1:k+1<=j;rw[if_pos h1,if_pos oM];rw[if_neg h1,if_neg oM]
  have hp2:k+1=n->∀j,j<n->(if j=k then((n - 1 - k:Nat):Int) else pl j)=if k<=j then((n - 1 - j:Nat):Int) else pl j:=λhkn j hj=>by
   by_cases hx:j=k;subst hx;rw[if_pos rfl,if_pos (Nat.le_refl _)];rw[if_neg hx,if_neg oM]
  have all:k+1=n->mR n (λj=>decide (j<k+1))=mR n (λ_=>true):=λhkn=>gF λx hx=>dcT oM;have hd0:k+1=n->([]:List Int)=dsc n (k+1):=λhkn=>by unfold dsc;rw[show n - (k+1)=0 by omega];rfl
  have sF:∀z:Nat,z<=k->(λj=>decide (j<k+1)) z=true:=λz hz=>dcT oM;have nF:(λj=>decide (j<k+1)) (k+1)=false:=dcF oM;rcases fk g hk with⟨_,h1,h2⟩|⟨_,h1,h2⟩|⟨z,hz,_,h1,h2⟩|⟨z,hz,_,h1,h2⟩
  rw[h2];refine(uQ (b:=⟨0,0,[((k+1:Nat):Int)]⟩) (i:=0) (m:=1) rfl oM h1 nF (ih h1)).trans ?_;refine(qg (b:=⟨0,0,[((k+1:Nat):Int)]⟩) (m:=0)).trans ?_;exact fin _ _ rfl hp1;rw[h2,all h1];refine(qg (b:=⟨0,0,[]⟩) (m:=0)).trans ?_;exact fin _ _ (hd0 h1) (hp2 h1);rw[h2];refine(rQ (b:=⟨0,0,[(z:Int),((k+1:Nat):Int)]⟩) (i:=0) (m:=2) rfl oM oM (sF z hz)).trans ?_;refine(uQ (b:=⟨0,0,[(z:Int),((k+1:Nat):Int)]⟩) (i:=1) (m:=1) rfl oM h1 nF (ih h1)).trans ?_;refine(qg (b:=⟨0,0,[(z:Int),((k+1:Nat):Int)]⟩) (m:=0)).trans ?_;exact fin _ _ rfl hp1;rw[h2];refine(rQ (b:=⟨0,0,[(z:Int)]⟩) (i:=0) (m:=1) rfl oM oM (sF z hz)).trans ?_;rw[all h1];refine(qg (b:=⟨0,0,[(z:Int)]⟩) (m:=0)).trans ?_;exact fin _ _ (hd0 h1) (hp2 h1)
theorem oA{n:Nat}{h:Nat->Option Nat}(g:CG n h):f38 (Bk n h)=some (dsc n 0,mR n λj=>((n - 1 - j:Nat):Int)):=by have hle:=g.le;have hpos:=g.pos;unfold f38;rw[dK,sd oM,bnS,aq _ (m8 dC oM),af,dcT oM,cdT,Int.toNat_natCast,ji,ji];have:=qf g n 0 100 (λ_=> -1) rfl hpos oM;have e0:mR n (λj=>decide (j<0))=mR n λ_=>false:=di λx=>dcF oM;rw[e0] at this;rw[show(0:Int)=((0:Nat):Int) from rfl,this,bnS];rfl
theorem qD{n:Nat}{h:Nat->Option Nat}(g:CG n h):f73 (Bk n h)=some (mR n λj=>(j:Int) - 1):=by
 have hle:=g.le;have hpos:=g.pos;unfold f73;rw[n7 g,bnS,dK,Bool.not_true,Bool.false_or,dcF oM,cdF,oA g,bnS,aq _ (m8 dC oM),af,Int.toNat_natCast,ji];have hb:=bef1 g (dsc n 0,mR n λj=>((n - 1 - j:Nat):Int)) (λlw125=>Option.bind (f77o [(-1)] (n:Int)) λr154=>
  Option.bind (idx r154 0) λx156=>
  al (λ(lw157:List Int)(c80v158:Bool)=>
  Option.bind (idx lw157 0) λx221=>
  some (List.set lw157 (Int.toNat 0) (-1))) λk159=>
  (f73_l3 (dsc n 0,mR n λj=>((n - 1 - j:Nat):Int)) lw125 k159 9223372036854775808 (List.set r154 (Int.toNat 0) 0) true)) (λz hz=>by obtain⟨y,h1,_,h2⟩:=qC.1 hz;exact⟨y,h1,h2⟩) (by show(dsc n 0).length<=900;rw[bX];omega) (Int.toNat (((dsc n 0).length:Int) - 0)+1) 0 (λ_=> []) (λj=>sM) (Nat.zero_le _) (by show(dsc n 0).length<_;omega)
 refine Eq.trans hb ?_;simp only[List.nil_append,List.drop_zero];rw[sd oM,bnS,ji,show(0:Int)=((0:Nat):Int) from rfl,bE hpos,bnS,af,Int.toNat_natCast,gk];have e1:mR n (λx=>if x=0 then((0:Nat):Int) else -1)=mR n (Dc 1):=di λx=>by
  unfold Dc;by_cases hx:x=0;rw[if_pos hx,if_pos hx];rfl;rw[if_neg hx,if_neg hx,if_neg oM]
 rw[e1];have h4:=λK ag c hc1 hcn=>um g (rr:=(dsc n 0,mR n λj=>((n - 1 - j:Nat):Int))) rfl rfl (B:=λj=>(dsc n 0).filter λx=>decide ((j:Int)∈Nx n h x.toNat)) (λj=>Nat.le_trans (List.length_filter_le _ _) (by rw[bX];omega)) (λj z=>by
  rw[List.mem_filter,qC];constructor;rintro⟨⟨y,rfl,_,h1⟩,h2⟩;exact⟨y,rfl,h1,by simpa using h2⟩;rintro⟨y,rfl,h1,h2⟩;exact⟨⟨y,rfl,Nat.zero_le _,h1⟩,by simpa using h2⟩) K (n+1) 0 c ag (Nat.zero_le _) oM (Nat.zero_le _) hc1 hcn
 have hit:∀(m:Nat)(Q:List Int->Bool->Option (List Int))(c:Nat),1<=c->c<=n->f73_l3 (dsc n 0,mR n λj=>((n - 1 - j:Nat):Int)) (mR n λj=>(dsc n 0).filter λx=>decide ((j:Int)∈Nx n h x.toNat)) Q (m+1) (mR n (Dc c)) true=f73_l3 (dsc n 0,mR n λj=>((n - 1 - j:Nat):Int)) (mR n λj=>(dsc n 0).filter λx=>decide ((j:Int)∈Nx n h x.toNat)) Q m (mR n (Dc n)) (decide (c<n)):=λm Q c hc1 hcn=>by
  rw[f73_l3,cdT,af,af,af];have e2:i64.wrap (((dsc n 0).length:Int) - 1)=((n - 1:Nat):Int):=by rw[bX,w64 oM oM];omega
  show f73_l4 _ _ _ (Int.toNat ((i64.wrap (((dsc n 0).length:Int) - 1))+1)+1) (i64.wrap (((dsc n 0).length:Int) - 1)) _ false=_;rw[e2,show Int.toNat (((n - 1:Nat):Int)+1)+1=n+1 by omega,show((n - 1:Nat):Int)=(n:Int) - 1 - ((0:Nat):Int) by omega,h4 _ false c hc1 hcn,Bool.false_or]
 have hend:∀(m:Nat)(Q:List Int->Bool->Option (List Int))(D:List Int),f73_l3 (dsc n 0,mR n λj=>((n - 1 - j:Nat):Int)) (mR n λj=>(dsc n 0).filter λx=>decide ((j:Int)∈Nx n h x.toNat)) Q (m+1) D false=Q D false:=λm Q D=>by
  rw[f73_l3,cdF]
 obtain⟨F,hF⟩:∃F:Nat,9223372036854775808=F+1+1+1:=⟨9223372036854775805,rfl⟩;have hfin:(Option.bind (idx (mR n (Dc n)) ((0:Nat):Int)) λ_=>some (List.set (mR n (Dc n)) 0 (-1)))=some (mR n λj=>(j:Int) - 1):=by rw[bE hpos,bnS,gk];refine congrArg some (gF λx hx=>?_);unfold Dc;by_cases h0:x=0;rw[if_pos h0,h0];rfl;rw[if_neg h0,if_neg h0,if_pos hx];omega
 rw[hF,hit _ _ 1 (Nat.le_refl _) hpos];by_cases h1:1<n;rw[dcT h1,hit _ _ n hpos (Nat.le_refl _),dcF (Nat.lt_irrefl n),hend];exact hfin;rw[dcF h1,hend];exact hfin
theorem rX{L:List Int}(h:Asc L):Lib.compact (L.mergeSort λx y=>decide (x<=y))=L:=by
 rw[List.mergeSort_of_pairwise (List.Pairwise.imp (λh=>dcT oM) h)];refine Lib.compact_all L λj hj=>?_;unfold Lib.keeps;refine dcT ?_;by_cases h0:j=0;exact .inl h0;refine .inr λe=>?_;have:=List.pairwise_iff_getElem.1 h (j - 1) j oM hj oM;have e1:L.toArray[j]! =L[j]:=by simp[hj]
 have e2:L.toArray[j - 1]! =L[j - 1]:=by simp[show j - 1<L.length by omega]
 rw[e1,e2] at e;omega
def Dm(n:Nat):List Int:=mR n λj=>(j:Int) - 1
theorem nI(n:Nat):(Dm n).length=n:=cP _ _
theorem tC{n i:Nat}(hi:i<n):idx (Dm n) (i:Int)=some ((i:Int) - 1):=bE hi
theorem u4{n:Nat}(d:Nat)(K:Int->Option Bool):∀(m x:Nat),x<n->x+1<m->f76_l1 (Dm n) (d:Int) K m (x:Int)=K (if d<=x then(d:Int) else -1)
 |0,x,_,h=>oM
 |m+1,x,hx,hm=>by
  rw[f76_l1,dcT oM,Bool.true_and];by_cases e:x=d;subst e;rw[dcT rfl,Bool.not_true,cdF,if_pos (Nat.le_refl _)];rw[dcF oM,Bool.not_false,cdT,tC hx,bnS];by_cases h0:x=0;subst h0;obtain⟨m',rfl⟩:∃k,m=k+1:=⟨m - 1,oM⟩;rw[f76_l1,dcF oM,Bool.false_and,cdF,if_neg oM];rfl;rw[show(x:Int) - 1=((x - 1:Nat):Int) by omega,u4 d K m (x - 1) oM oM];by_cases hd:d<=x;rw[if_pos hd,if_pos oM];rw[if_neg hd,if_neg oM]
theorem dmts{n:Nat}(hn:n<=90)(d:Nat){x:Nat}(hx:x<n):f76 (Dm n) (d:Int) (x:Int)=some (decide ((d:Int)<=(x:Int))):=by obtain⟨F,hF⟩:∃F:Nat,F=9223372036854775808:=⟨_,rfl⟩;unfold f76;rw[af,<-hF,u4 d _ F x hx oM];by_cases h:d<=x;rw[if_pos h,dcT rfl,dcT oM];rw[if_neg h,dcF oM,dcF oM]
theorem cnd{n:Nat}{x:Nat}(hx:x<n):(bif decide ((x:Int)=0) then some true else(Option.bind (idx (Dm n) (x:Int)) λx153=>some (decide (x153>=0))))=some true:=by by_cases h:x=0;rw[dcT oM,cdT];rw[dcF oM,cdF,tC hx,bnS,dcT oM]
theorem v7{n:Nat}(hn:n<=90){x:Nat}(hx:x<n)(K:List Pr2->Option (List Pr2))(L:List Int)(hl:L.length<=1000)(hL:∀z∈L,∃y:Nat,z=y):∀(m i:Nat)(lw:List Pr2),i<=L.length->L.length<m+i->lw.length<=100000+i->f37_l2 (Dm n) (x:Int) K L m (i:Int) lw=K (lw++((L.drop i).filter λz=>decide (z<=(x:Int))).map λz=>⟨(x:Int),z⟩)
 |0,i,_,_,h,_=>oM
 |m+1,i,lw,hi,hm,hlw=>by
  rw[f37_l2];by_cases hlt:i<L.length;obtain⟨y,hy⟩:=hL _ (List.getElem_mem hlt);rw[ltb hlt,cdT,af,aZ hlt,bnS,cnd hx,bnS,cdT,hy,dmts hn y hx,bnS,bnS,w1n oM,List.drop_eq_getElem_cons hlt,List.filter_cons,hy];by_cases h:(y:Int)<=(x:Int);rw[dcT h,cdT,if_pos rfl,aq _ (eQ dC (by simp;omega))];show f37_l2 (Dm n) (x:Int) K L m ((i+1:Nat):Int) _=_;rw[v7 hn hx K L hl hL m (i+1) _ oM oM (by simp;omega)];simp;rw[dcF h,cdF,if_neg sM];show f37_l2 (Dm n) (x:Int) K L m ((i+1:Nat):Int) _=_;rw[v7 hn hx K L hl hL m (i+1) _ oM oM oM];rw[ltf hlt,cdF,List.drop_eq_nil_of_le oM];simp
def be(h:Nat->Option Nat)(x:Nat):List Pr2:=(h x).toList.map λz:Nat=>⟨(x:Int),(z:Int)⟩
theorem uH{n:Nat}{h:Nat->Option Nat}(g:CG n h)(x:Nat):(((Nx n h x).filter λz=>decide (z<=(x:Int))).map λz=>(⟨(x:Int),z⟩:Pr2))=be h x:=by
 unfold be Nx;cases hx:h x with
 |none=>split;simp;omega;simp
 |some z=>have:=g.back x z hx;split;show List.map _ (List.filter _ [(z:Int),((x+1:Nat):Int)])=[(⟨(x:Int),(z:Int)⟩:Pr2)];rw[List.filter_cons,if_pos (dcT oM),List.filter_cons,if_neg (by simp;omega)];rfl;show List.map _ (List.filter _ [(z:Int)])=[(⟨(x:Int),(z:Int)⟩:Pr2)];rw[List.filter_cons,if_pos (dcT oM)];rfl
theorem bkl1{n:Nat}{h:Nat->Option Nat}(g:CG n h)(K:List Pr2->Option (List Pr2)):∀(m i:Nat)(lw:List Pr2),i<=n->n<m+i->lw.length<=2*i->f37_l1 (Bk n h) (Dm n) K m (i:Int) lw=K (lw++((List.range n).drop i).flatMap (be h))
 |0,i,_,_,h,_=>oM
 |m+1,i,lw,hi,hm,hlw=>by
  have hle:=g.le;rw[f37_l1,nI];by_cases hlt:i<n;have h2:=jy n h i;rw[ltb hlt,cdT,af,gw h hlt,bnS];unfold f42o f74 f75;rw[aq _ (dM (by simp;omega)),bnS,aq _ (dcT (by show(Nx n h i).length<_;omega)),bnS,bnS,rX (nB g i)];have e:=v7 hle hlt (λlw70=>f37_l1 (Bk n h) (Dm n) K m (i64.wrap ((i:Int)+1)) lw70) (Nx n h i) oM (λz hz=>by obtain⟨y,h1,_⟩:=jx g hz;exact⟨y,h1⟩) (Int.toNat (((Nx n h i).length:Int) - 0)+1) 0 lw (Nat.zero_le _) oM oM;refine Eq.trans e ?_;have hb1:(be h i).length<=1:=by unfold be;cases h i<;>simp
  rw[List.drop_zero,uH g,w1n oM,bkl1 g K m (i+1) _ oM oM (by simp;omega),List.drop_eq_getElem_cons (l:=List.range n) (i:=i) (by simpa using hlt),List.flatMap_cons,List.getElem_range,List.append_assoc];rw[ltf hlt,cdF,List.drop_eq_nil_of_le (by simp;omega)];simp
def Bks(n:Nat)(h:Nat->Option Nat):List Pr2:=(List.range n).flatMap (be h)
theorem iV{n:Nat}{h:Nat->Option Nat}(hn:n<=90):(Bks n h).length<=100:=by
 have:∀k,((List.range k).flatMap (be h)).length<=k:=λk=>by
  induction k with
  |zero=>simp
  |succ k ih=>
   have hb1:(be h k).length<=1:=by unfold be;cases h k<;>simp
   rw[List.range_succ,List.flatMap_append,List.length_append];simp only[List.flatMap_cons,List.flatMap_nil,List.append_nil];omega
 have:=this n;unfold Bks;omega
theorem eh{n:Nat}{h:Nat->Option Nat}(g:CG n h){p:Pr2}:p∈Bks n h↔∃x z:Nat,h x=some z/\p=⟨(x:Int),(z:Int)⟩:=by unfold Bks be;rw[List.mem_flatMap];constructor;rintro⟨x,_,h2⟩;obtain⟨z,hz,rfl⟩:=List.mem_map.1 h2;exact⟨x,z,by simpa using hz,rfl⟩;rintro⟨x,z,h1,rfl⟩;exact⟨x,List.mem_range.2 (g.back x z h1).2,List.mem_map.2 ⟨z,by simp[h1],rfl⟩⟩
theorem lk{n:Nat}{h:Nat->Option Nat}(g:CG n h):f37 (Bk n h)=some (Bks n h):=by have hle:=g.le;unfold f37;rw[qD g,bnS,af];have:=bkl1 g (λlw58=>some lw58) (Int.toNat (((Dm n).length:Int) - 0)+1) 0 [] (Nat.zero_le _) (by rw[nI];omega) sM;refine Eq.trans this ?_;rw[List.nil_append,List.drop_zero];rfl
theorem l2w(a:List Int)(b:Int)(c:List Pr2->Option (List Pr2))(d:List Int):∀m i lw,f37w_l2 a b c d m i lw=f37_l2 a b c d m i lw
 |0,_,_=>rfl
 |m+1,i,lw=>by rw[f37w_l2,f37_l2];simp only[l2w a b c d m]
theorem l1w(a:List aj)(b:List Int)(c:List Pr2->Option (List Pr2)):∀m i lw,f37w_l1 a b c m i lw=f37_l1 a b c m i lw
 |0,_,_=>rfl
 |m+1,i,lw=>by rw[f37w_l1,f37_l1];simp only[l1w a b c m,l2w]
theorem mD{n:Nat}{h:Nat->Option Nat}(g:CG n h):f37w (Bk n h)=some (Bks n h):=by rw[<-lk g];unfold f37w f37;simp only[af,l1w]
theorem rd1(K:List ((Int×Int)×Bool)->Option Bool)(L:List Pr2)(hl:L.length<=1000):∀(m i:Nat)(mm:List ((Int×Int)×Bool)),i<=L.length->L.length<m+i->∃m',f15_l1 K L m (i:Int) mm=K m'/\∀k,(ac mm k=some true\/∃p∈L.drop i,k=(p.e0,p.e1))->ac m' k=some true
 |0,i,_,_,h=>oM
 |m+1,i,mm,hi,hm=>by
  rw[f15_l1];by_cases hlt:i<L.length;rw[ltb hlt,cdT,aZ hlt,bnS,w1n oM];obtain⟨m',h1,h2⟩:=rd1 K L hl m (i+1) (ai mm (L[i].e0,L[i].e1) true) oM oM;refine⟨m',h1,λk hk=>h2 k ?_⟩;rw[aF];by_cases e:(L[i].e0,L[i].e1)=k;rw[if_pos e];exact .inl rfl;rw[if_neg e];rcases hk with hk|⟨p,hp,rfl⟩
  exact .inl hk;rw[List.drop_eq_getElem_cons hlt] at hp;rcases List.mem_cons.1 hp with rfl|hp
  exact absurd rfl e;exact .inr ⟨p,hp,rfl⟩;rw[ltf hlt,cdF];refine⟨mm,rfl,λk hk=>?_⟩;rw[List.drop_eq_nil_of_le oM] at hk;rcases hk with hk|⟨p,hp,_⟩
  exact hk;cases hp
theorem rd3{n:Nat}{h:Nat->Option Nat}(g:CG n h){mm:List ((Int×Int)×Bool)}(hm:∀x z:Nat,h x=some z->ac mm ((x:Int),(z:Int))=some true){rr:List Int×List Int}(hp:rr.2=mR n λj=>((n - 1 - j:Nat):Int)){x:Nat}(hx:x<n)(K:Unit->Option Bool):∀(m i:Nat),i<=(Nx n h x).length->(Nx n h x).length<m+i->f15_l3 mm rr (x:Int) K ((n - 1 - x:Nat):Int) ⟨0,0,Nx n h x⟩ m (i:Int)=K ()
 |0,i,_,h=>oM
 |m+1,i,hi,hmm=>by
  have h2:=jy n h x;rw[f15_l3];by_cases hlt:i<(Nx n h x).length;have hmem:=List.getElem_mem hlt;obtain⟨y,hy,hyn,_⟩:=jx g hmem;rw[hy] at hmem;show(bif decide ((i:Int)<((Nx n h x).length:Int)) then _ else _)=_;rw[ltb hlt,cdT];show(Option.bind (idx (Nx n h x) (i:Int)) _)=_;rw[aZ hlt,bnS,hy,dcT oM,cdT,hp,bE hyn,bnS,bnS,w1n oM];have hb:(decide (((n - 1 - y:Nat):Int)>=((n - 1 - x:Nat):Int))&& !(Option.getD (ac mm ((x:Int),(y:Int))) false))=false:=by
   rcases gv.1 hmem with⟨w,h5,h6⟩|⟨h5,h6⟩
   have:y=w:=oM;subst this;rw[hm x y h5];simp;rw[dcF oM,Bool.false_and]
  rw[hb,cdF];exact rd3 g hm hp hx K m (i+1) oM oM;show(bif decide ((i:Int)<((Nx n h x).length:Int)) then _ else _)=_;rw[ltf hlt,cdF]
theorem rd2{n:Nat}{h:Nat->Option Nat}(g:CG n h){mm:List ((Int×Int)×Bool)}(hm:∀x z:Nat,h x=some z->ac mm ((x:Int),(z:Int))=some true){rr:List Int×List Int}(hp:rr.2=mR n λj=>((n - 1 - j:Nat):Int))(K:Unit->Option Bool):∀(m i:Nat),i<=n->n<m+i->f15_l2 (Bk n h) mm rr K m (i:Int)=K ()
 |0,i,_,h=>oM
 |m+1,i,hi,hmm=>by
  have hle:=g.le;rw[f15_l2,hp,cP];by_cases hlt:i<n;rw[ltb hlt,cdT,af,bE hlt,bnS,gw h hlt,bnS];have e:=rd3 g hm hp hlt (λ_=>f15_l2 (Bk n h) mm rr K m (i64.wrap ((i:Int)+1))) (Int.toNat (((Nx n h i).length:Int) - 0)+1) 0 (Nat.zero_le _) oM;refine Eq.trans e ?_;rw[w1n oM];exact rd2 g hm hp K m (i+1) oM oM;rw[ltf hlt,cdF]
theorem se{n:Nat}{h:Nat->Option Nat}(g:CG n h):f15 (Bk n h)=some true:=by
 have hle:=g.le;unfold f15;rw[n7 g,bnS,Bool.not_true,cdF,af,lk g,bnS];have hbl:=iV (h:=h) hle;obtain⟨m',h1,h2⟩:=rd1 (λm71=>Option.bind (f38 (Bk n h)) λr81=>
  al (λ(_:Unit)=>some true) λk82=>
  (f15_l2 (Bk n h) m71 r81 k82 (Int.toNat ((List.length r81.2:Int) - 0)+1) 0)) (Bks n h) oM (Int.toNat (((Bks n h).length:Int) - 0)+1) 0 [] (Nat.zero_le _) oM
 refine Eq.trans h1 ?_;rw[oA g,bnS,af];have:=rd2 g (mm:=m') (λx z hz=>h2 _ (.inr ⟨⟨x,z⟩,by rw[List.drop_zero];exact(eh g).2 ⟨x,z,hz,rfl⟩,rfl⟩)) (rr:=(dsc n 0,mR n λj=>((n - 1 - j:Nat):Int))) rfl (λ_=>some true) (Int.toNat ((List.length (mR n λj=>((n - 1 - j:Nat):Int)):Int) - 0)+1) 0 (Nat.zero_le _) (by rw[cP];omega);exact this
theorem bef3{n:Nat}(D:List Int)(K:List (List Int)->Option (List Int))(x:Nat)(b:aj)(hL:∀z∈b.next,∃y:Nat,z=y/\y<n)(hnd:b.next.Nodup)(c:Nat)(hc:c<=1000)(hl:b.next.length<=10)(hx:(bif decide ((x:Int)=0) then some true else(Option.bind (idx D (x:Int)) λx153=>some (decide (x153>=0))))=some true):∀(m i:Nat)(B:Nat->List Int),(∀j,(B j).length<=c+i)->i<=b.next.length->b.next.length<m+i->f39w_l2 D (x:Int) K b m (i:Int) (mR n B)=K (mR n λj=>B j++if(j:Int)∈b.next.drop i then[(x:Int)] else[])
 |0,i,_,_,_,h=>oM
 |m+1,i,B,hB,hi,hn=>by
  rw[f39w_l2];by_cases hlt:i<b.next.length;obtain⟨y,hy,hyn⟩:=hL _ (List.getElem_mem hlt);have hnd':=hnd.sublist (List.drop_sublist i b.next);rw[List.drop_eq_getElem_cons hlt,List.nodup_cons] at hnd';have hg:=hB y;rw[ltb hlt,cdT,af,aZ hlt,bnS,hy,hx,bnS,cdT,bE hyn,bnS,aq _ (dM (by simp;omega)),w1n oM,Int.toNat_natCast,gk];show f39w_l2 D (x:Int) K b m ((i+1:Nat):Int) _=_;rw[bef3 D K x b hL hnd c hc hl hx m (i+1) _ (λj=>by
   have:=hB j;split<;>(try simp)<;>omega) oM oM]
  congr 1;refine di λj=>?_;rw[List.drop_eq_getElem_cons hlt,hy];rw[hy] at hnd';by_cases e:j=y;subst e;rw[if_pos rfl,if_neg hnd'.1,if_pos List.mem_cons_self,List.append_nil];rw[if_neg e];by_cases hm:(j:Int)∈b.next.drop (i+1);rw[if_pos hm,if_pos (List.mem_cons_of_mem _ hm)];rw[if_neg hm,if_neg λh=>by
   rcases List.mem_cons.1 h with h|h
   omega;exact hm h]
  rw[ltf hlt,cdF,List.drop_eq_nil_of_le oM];simp
theorem lp1{n:Nat}{h:Nat->Option Nat}(g:CG n h)(K:List (List Int)->Option (List Int)):∀(m i:Nat)(B:Nat->List Int),(∀j,(B j).length<=i)->i<=n->n<m+i->f39w_l1 (Bk n h) (Dm n) K m (i:Int) (mR n B)=K (mR n λj=>B j++(((List.range n).drop i).filter λx=>decide ((j:Int)∈Nx n h x)).map λx:Nat=>(x:Int))
 |0,i,_,_,_,h=>oM
 |m+1,i,B,hB,hi,hn=>by
  have hle:=g.le;rw[f39w_l1,nI];by_cases hlt:i<n;have h2:=jy n h i;rw[ltb hlt,cdT,af,gw h hlt,bnS];have e:=bef3 (n:=n) (Dm n) (λlw135=>f39w_l1 (Bk n h) (Dm n) K m (i64.wrap ((i:Int)+1)) lw135) i ⟨0,0,Nx n h i⟩ (λz hz=>by obtain⟨w,h1,h2,_⟩:=jx g hz;exact⟨w,h1,h2⟩) (fH (nB g i)) i oM (by show(Nx n h i).length<=10;omega) (cnd hlt) (Int.toNat (((Nx n h i).length:Int) - 0)+1) 0 B (λj=>by have:=hB j;omega) (Nat.zero_le _) (by show(Nx n h i).length<_;omega);refine Eq.trans e ?_;rw[w1n oM,lp1 g K m (i+1) _ (λj=>by have:=hB j;simp only[List.length_append];split<;>simp<;>omega) oM oM];congr 1;refine di λj=>?_;rw[List.drop_eq_getElem_cons (l:=List.range n) (i:=i) (by simpa using hlt),List.filter_cons,List.getElem_range,List.drop_zero];by_cases hm:(j:Int)∈Nx n h i;rw[if_pos hm,dcT hm,if_pos rfl];simp;rw[if_neg hm,dcF hm,if_neg sM];simp;rw[ltf hlt,cdF,List.drop_eq_nil_of_le (by simp;omega)];simp
def Pd(n:Nat)(h:Nat->Option Nat)(j:Nat):List Int:=((List.range n).filter λx=>decide ((j:Int)∈Nx n h x)).map λx:Nat=>(x:Int)
theorem tw{n:Nat}{h:Nat->Option Nat}(g:CG n h){j:Nat}(hj:j<n){z:Int}:z∈Pd n h j↔∃y:Nat,z=y/\(h y=some j\/y+1=j):=by
 unfold Pd;rw[List.mem_map];constructor;rintro⟨y,h1,rfl⟩;have:=of_decide_eq_true (List.mem_filter.1 h1).2;rcases gv.1 this with⟨w,h5,h6⟩|⟨h5,h6⟩
 have:j=w:=oM;subst this;exact⟨y,rfl, .inl h5⟩;exact⟨y,rfl, .inr oM⟩;rintro⟨y,rfl,h1|h1⟩;exact⟨y,List.mem_filter.2 ⟨List.mem_range.2 (g.back y j h1).2,dcT (gv.2 (.inl ⟨j,h1,rfl⟩))⟩,rfl⟩;exact⟨y,List.mem_filter.2 ⟨List.mem_range.2 oM,dcT (gv.2 (.inr ⟨oM,oM⟩))⟩,rfl⟩
theorem tx(n:Nat)(h:Nat->Option Nat)(j:Nat):Asc (Pd n h j):=jb _ _
theorem lp3(hd:Int)(K:List (Int×Bool)->List Int->Option (List Int))(L:List Pr2)(hl:L.length<=1000):∀(m i:Nat)(mm:List (Int×Bool))(lw:List Int),i<=L.length->L.length<m+i->lw.length<=i->∃m',f39w_l3 hd K L m (i:Int) mm lw=K m' (lw++((L.drop i).filter λp=>decide (p.e1=hd)).map (·.e0))/\∀z,Option.getD (ac m' z) false=(Option.getD (ac mm z) false||(decide (z=hd)&&(L.drop i).any λp=>decide (p.e1=hd)))
 |0,i,_,_,_,h,_=>oM
 |m+1,i,mm,lw,hi,hm,hlw=>by
  rw[f39w_l3];by_cases hlt:i<L.length;rw[ltb hlt,cdT,af,aZ hlt,bnS,w1n oM,List.drop_eq_getElem_cons hlt,List.filter_cons,List.any_cons];by_cases e:L[i].e1=hd;rw[dcT e,cdT,aq _ (dM (by simp;omega)),if_pos rfl];obtain⟨m',h1,h2⟩:=lp3 hd K L hl m (i+1) (ai mm hd true) (lw++ [L[i].e0]) oM oM (by simp;omega);refine⟨m',h1.trans sM,λz=>?_⟩;rw[h2,aF];by_cases hz:hd=z;subst hz;simp;rw[if_neg hz,dcF λe=>hz e.symm];simp;rw[dcF e,cdF,if_neg sM];obtain⟨m',h1,h2⟩:=lp3 hd K L hl m (i+1) mm lw oM oM oM;exact⟨m',h1,λz=>by rw[h2,Bool.false_or]⟩;rw[ltf hlt,cdF,List.drop_eq_nil_of_le oM];exact⟨mm,sM,λz=>sM⟩
theorem vR(B:List (List Int))(K:List (Int×Bool)->List Int->Option (List Int))(m:Nat)(mm:List (Int×Bool))(S:List Int)(v:Int)(hS:S.length<=1000):f39w_l4 B K (m+1) mm (S++ [v])=bif !(Option.getD (ac mm v) false) then(Option.bind (idx B v) λx=>au (aO 8 S x) (f39w_l4 B K m (ai mm v true) (S++x))) else f39w_l4 B K m mm S:=by
 have hwl:i64.wrap (((S++ [v]).length:Int) - 1)=(S.length:Int):=by rw[w64 (by simp only[List.length_append,List.length_singleton];omega) (by simp only[List.length_append,List.length_singleton];omega)];simp
 rw[f39w_l4,dcT (show((S++ [v]).length:Int)>0 by simp only[List.length_append,List.length_singleton];omega),cdT,hwl,aZ (show S.length<(S++ [v]).length by simp),bnS,aq _ (by simp[cm];omega)];simp
theorem sI(mm:List (Int×Bool))(v z:Int):Option.getD (ac (ai mm v true) z) false=(decide (v=z)||Option.getD (ac mm z) false):=by rw[aF];by_cases e:v=z;rw[if_pos e,dcT e];rfl;rw[if_neg e,dcF e];rfl
theorem lp4{n:Nat}{h:Nat->Option Nat}(g:CG n h){a b:Nat}(hb:h b=some a)(K:List (Int×Bool)->List Int->Option (List Int)):∀(d x m:Nat)(mm:List (Int×Bool)),x - a=d->a<=x->x<=b->2*d+2<=m->(∀z,Option.getD (ac mm z) false=decide (z=(a:Int)\/((x:Int)<z/\z<=(b:Int))))->∃m',f39w_l4 (mR n (Pd n h)) K m mm [(x:Int)]=K m' []/\∀z,Option.getD (ac m' z) false=decide ((a:Int)<=z/\z<=(b:Int))
 |0,x,m,mm,hd,hax,hxb,hm,hmm=>by
  obtain⟨m,rfl⟩:∃k,m=k+1+1:=⟨m - 2,oM⟩;have:x=a:=oM;subst this;refine⟨mm,?_,λz=>by rw[hmm];exact decide_eq_decide.2 oM⟩;have e:=vR (mR n (Pd n h)) K (m+1) mm [] (x:Int) sM;rw[List.nil_append] at e;rw[e,hmm,dcT (.inl rfl),Bool.not_true,cdF,f39w_l4];rfl
 |d+1,x,m,mm,hd,hax,hxb,hm,hmm=>by
  have hbn:=(g.back b a hb).2;have hle:=g.le;obtain⟨m,rfl⟩:∃k,m=k+1+1:=⟨m - 2,oM⟩;have e:=vR (mR n (Pd n h)) K (m+1) mm [] (x:Int) sM;rw[List.nil_append] at e;have hl:(Pd n h x).length<=n:=by unfold Pd;rw[List.length_map];exact Nat.le_trans (List.length_filter_le _ _) sM
  rw[e,hmm,dcF oM,Bool.not_false,cdT,bE oM,bnS,aq _ (dM (by simp;omega)),List.nil_append];have hnew:∀z,Option.getD (ac (ai mm (x:Int) true) z) false=decide (z=(a:Int)\/(((x - 1:Nat):Int)<z/\z<=(b:Int))):=λz=>by
   rw[sI,hmm];by_cases ez:(x:Int)=z;rw[dcT ez,Bool.true_or,dcT oM];rw[dcF ez,Bool.false_or];exact decide_eq_decide.2 oM
  by_cases hex:∃y,h y=some x;obtain⟨y,hy⟩:=hex;have h1:=g.back y x hy;have h2:=g.nest b a y x hb hy oM hxb;have ep:Pd n h x=[((x - 1:Nat):Int)]++ [(y:Int)]:=eP (tx n h x) (by simp;omega) λz=>by
   rw[tw g oM];simp only[List.singleton_append,List.mem_cons,List.not_mem_nil,or_false];constructor;rintro⟨w,rfl,hw|hw⟩;exact .inr (by rw[g.one w y x hw hy]);exact .inl oM;rintro(rfl|rfl);exact⟨x - 1,rfl, .inr oM⟩;exact⟨y,rfl, .inl hy⟩
  rw[ep,vR _ _ _ _ _ _ sM,hnew,dcT oM,Bool.not_true,cdF];exact lp4 g hb K d (x - 1) m _ oM oM oM oM hnew;have ep:Pd n h x=[((x - 1:Nat):Int)]:=eP (tx n h x) sM λz=>by
   rw[tw g oM,List.mem_singleton];constructor;rintro⟨w,rfl,hw|hw⟩;exact absurd ⟨w,hw⟩ hex;omega;rintro rfl;exact⟨x - 1,rfl, .inr oM⟩
  rw[ep];exact lp4 g hb K d (x - 1) (m+1) _ oM oM oM oM hnew
theorem lp5{n:Nat}{h:Nat->Option Nat}(hn:n<=90)(mm:List (Int×Bool))(K:List Int->Option (List Int)):∀(m i:Nat)(lw:List Int),i<=n->n<m+i->lw.length<=i->f39w_l5 (Bk n h) mm K m (i:Int) lw=K (lw++(((List.range n).drop i).filter λx:Nat=>Option.getD (ac mm (x:Int)) false).map λx:Nat=>(x:Int))
 |0,i,_,_,h,_=>oM
 |m+1,i,lw,hi,hm,hlw=>by
  rw[f39w_l5,dK];by_cases hlt:i<n;rw[ltb hlt,cdT,af,List.drop_eq_getElem_cons (l:=List.range n) (i:=i) (by simpa using hlt),List.filter_cons,List.getElem_range,w1n oM];cases hz:Option.getD (ac mm (i:Int)) false with
  |true=>rw[cdT,if_pos rfl,aq _ (dM (by simp;omega))];exact(lp5 hn mm K m (i+1) _ oM oM (by simp;omega)).trans sM
  |false=>rw[cdF,if_neg sM];exact lp5 hn mm K m (i+1) _ oM oM oM
  rw[ltf hlt,cdF,List.drop_eq_nil_of_le (by simp;omega)];simp
def seg(a b:Nat):List Int:=(List.range' a (b+1 - a)).map λi:Nat=>(i:Int)
theorem fy{a b:Nat}{z:Int}:z∈seg a b↔∃y:Nat,z=y/\a<=y/\y<=b:=by unfold seg;rw[List.mem_map];constructor;rintro⟨y,h1,rfl⟩;have:=List.mem_range'_1.1 h1;exact⟨y,rfl,oM,oM⟩;rintro⟨y,rfl,h1,h2⟩;exact⟨y,List.mem_range'_1.2 oM,rfl⟩
theorem tV(a b:Nat):Asc (seg a b):=by unfold seg Asc;rw[List.pairwise_map];exact List.Pairwise.imp (λh=>oM) (List.pairwise_lt_range' (step:=1) oM)
theorem uc{n:Nat}{h:Nat->Option Nat}(g:CG n h){a b:Nat}(hb:h b=some a):f39w (Bk n h) (a:Int)=some (seg a b):=by
 have hle:=g.le;have hba:=g.back b a hb;have hbl:=iV (h:=h) hle;obtain⟨F,hF⟩:∃F:Nat,F=9223372036854775808:=⟨_,rfl⟩;unfold f39w;rw[dK,aq _ (m8 dC oM),qD g,bnS,af,Int.toNat_natCast,ji,<-hF];have h1:=lp1 g (λlw123=>al (λ(m156:List (Int×Bool))(lw157:List Int)=>
  al (λ(m179:List (Int×Bool))(lw180:List Int)=>
  al (λ(lw196:List Int)=>
  some lw196) λk198=>
  (f39w_l5 (Bk n h) m179 k198 (Int.toNat ((n:Int) - 0)+1) 0 [])) λk182=>
  (f39w_l4 lw123 k182 F m156 lw157)) λk159=>
  Option.bind (f37 (Bk n h)) λr160=>
  (f39w_l3 (a:Int) k159 r160 (Int.toNat ((List.length r160:Int) - 0)+1) 0 ([]:List (Int×Bool)) [])) (Int.toNat (((Dm n).length:Int) - 0)+1) 0 (λ_=> []) (λj=>sM) (Nat.zero_le _) (by rw[nI];omega)
 refine Eq.trans h1 ?_;simp only[List.nil_append,List.drop_zero];rw[af,lk g,bnS];obtain⟨m1,h2,h3⟩:=lp3 (a:Int) (λ(m156:List (Int×Bool))(lw157:List Int)=>
  al (λ(m179:List (Int×Bool))(lw180:List Int)=>
  al (λ(lw196:List Int)=>
  some lw196) λk198=>
  (f39w_l5 (Bk n h) m179 k198 (Int.toNat ((n:Int) - 0)+1) 0 [])) λk182=>
  (f39w_l4 (mR n (Pd n h)) k182 F m156 lw157)) (Bks n h) oM (Int.toNat (((Bks n h).length:Int) - 0)+1) 0 [] [] (Nat.zero_le _) oM sM
 refine Eq.trans h2 ?_;have hmem:(⟨(b:Int),(a:Int)⟩:Pr2)∈Bks n h:=(eh g).2 ⟨b,a,hb,rfl⟩;have hfil:((Bks n h).filter λp=>decide (p.e1=(a:Int))).map (·.e0)=[(b:Int)]:=by
  unfold Bks;rw[List.filter_flatMap,List.map_flatMap];have e:∀x,x∈List.range n->((be h x).filter λp=>decide (p.e1=(a:Int))).map (·.e0)=if x=b then[(b:Int)] else[]:=λx _=>by
   unfold be;cases hx:h x with
   |none=>rw[if_neg λe=>by rw[e,hb] at hx;cases hx];rfl
   |some z=>by_cases e:x=b;subst e;rw[hb] at hx;cases hx;rw[if_pos rfl];simp;rw[if_neg e];have:¬(z:Int)=(a:Int):=λe2=>e (g.one x b a (by rw[hx];congr 1;omega) hb);simp[this]
  rw[List.flatMap_def,List.map_congr_left e,<-List.flatMap_def];have e2:∀(l:List Nat),l.Nodup->b∈l->(l.flatMap λx=>if x=b then[(b:Int)] else[])=[(b:Int)]:=λl=>by
   induction l with
   |nil=>intro _ h;cases h
   |cons y l ih=>
    intro hn hm;rw[List.flatMap_cons];rw[List.nodup_cons] at hn;by_cases ey:y=b;subst ey;rw[if_pos rfl];have:(l.flatMap λx=>if x=y then[(y:Int)] else[])=[]:=List.flatMap_eq_nil_iff.2 λx hx=>by
     exact if_neg λe'=>hn.1 (by rw[<-e'];exact hx)
    rw[this];rfl;rw[if_neg ey,List.nil_append];rcases List.mem_cons.1 hm with h|h
    exact absurd h.symm ey;exact ih hn.2 h
  exact e2 _ List.nodup_range (List.mem_range.2 hba.2)
 rw[List.drop_zero,hfil,List.nil_append,af];have hany:(Bks n h).any (λp=>decide (p.e1=(a:Int)))=true:=List.any_eq_true.2 ⟨_,hmem,dcT rfl⟩;obtain⟨m2,h4,h5⟩:=lp4 g hb (λ(m179:List (Int×Bool))(lw180:List Int)=>
  al (λ(lw196:List Int)=>
  some lw196) λk198=>
  (f39w_l5 (Bk n h) m179 k198 (Int.toNat ((n:Int) - 0)+1) 0 [])) (b - a) b F m1 rfl hba.1 (Nat.le_refl _) oM (λz=>by
   rw[h3,List.drop_zero,hany,Bool.and_true,ac,Option.getD_none,Bool.false_or];exact decide_eq_decide.2 oM)
 refine Eq.trans h4 ?_;rw[af];have h6:=lp5 (h:=h) hle m2 (λlw=>some lw) (Int.toNat ((n:Int) - 0)+1) 0 [] (Nat.zero_le _) oM sM;refine Eq.trans h6 ?_;rw[List.nil_append,List.drop_zero];refine congrArg some (eP (jb _ _) (tV a b) λz=>?_);rw[fy,List.mem_map];constructor;rintro⟨y,h7,rfl⟩;have:=(List.mem_filter.1 h7).2;rw[h5] at this;have:=of_decide_eq_true this;exact⟨y,rfl,oM,oM⟩;rintro⟨y,rfl,h7,h8⟩;exact⟨y,List.mem_filter.2 ⟨List.mem_range.2 oM,by rw[h5];exact dcT oM⟩,rfl⟩
abbrev Eds:=List (Int×List aT)
abbrev Los:=List (Int×List Int)
section
variable{n:Nat}{bb:List aj}{rec40:(List Bool)->(List Int)->(List aj)->(List Int)->Eds->Los->(List Int)->(List (Int×Unit))->Int->Option ((List Bool)×(List Int))}{nat co:List Int}{ed:Eds}{lo:Los}{fo:List (Int×Unit)}{x:Int}{K:List Bool->List Int->Option ((List Bool)×(List Int))}{b:aj}
theorem sa{z:Int}(k88:Int->Option ((List Bool)×(List Int)))(k89:Unit->Option ((List Bool)×(List Int)))(hl:(Option.getD (ac ed z) []).length<=1000)(hne:∀e∈Option.getD (ac ed z) [],e.frm≠x):∀(m i:Nat),i<=(Option.getD (ac ed z) []).length->(Option.getD (ac ed z) []).length<m+i->f40s_l2 ed x z k88 k89 m (i:Int)=k89 ()
 |0,i,_,h=>oM
 |m+1,i,hi,hm=>by
  rw[f40s_l2];by_cases hlt:i<(Option.getD (ac ed z) []).length;rw[ltb hlt,cdT,aZ hlt,bnS,af,dcF (hne _ (List.getElem_mem hlt)),cdF,w1n oM];exact sa k88 k89 hl hne m (i+1) oM oM;rw[ltf hlt,cdF]
theorem r8{m i z:Nat}{s:Nat->Bool}{a:List Int}(hz:idx b.next (i:Int)=some (z:Int))(hi:i<1000)(hn:z<n)(hs:s z=true):f40s_l1 rec40 nat bb co ed lo fo x K b (m+1) (i:Int) (mR n s) a=f40s_l1 rec40 nat bb co ed lo fo x K b m ((i+1:Nat):Int) (mR n s) a:=by have h1:=(cQ hz);rw[f40s_l1,dcT oM,cdT,af,hz,bnS,bE hn,bnS,hs,Bool.not_true,cdF,w1n oM]
theorem uU{m i z:Nat}{s:Nat->Bool}{a:List Int}{r:(List Bool)×(List Int)}(hz:idx b.next (i:Int)=some (z:Int))(hi:i<1000)(hn:z<n)(hs:s z=false)(hl:(Option.getD (ac ed (z:Int)) []).length<=1000)(hne:∀e∈Option.getD (ac ed (z:Int)) [],e.frm≠x)(hr:rec40 (mR n s) nat bb co ed lo a fo (z:Int)=some r):f40s_l1 rec40 nat bb co ed lo fo x K b (m+1) (i:Int) (mR n s) a=f40s_l1 rec40 nat bb co ed lo fo x K b m ((i+1:Nat):Int) r.1 r.2:=by have h1:=(cQ hz);rw[f40s_l1,dcT oM,cdT,af,hz,bnS,bE hn,bnS,hs,Bool.not_false,cdT,af,af,af,af,show(0:Int)=((0:Nat):Int) from rfl,sa _ _ hl hne _ 0 (Nat.zero_le _) oM,w1n oM];show(bif !(decide ((-1:Int)>=((0:Nat):Int))) then _ else _)=_;rw[dcF oM,Bool.not_false,cdT,hr,bnS]
theorem qi{m:Nat}{s:List Bool}{a:List Int}:f40s_l1 rec40 nat bb co ed lo fo x K b (m+1) (b.next.length:Int) s a=K s a:=by rw[f40s_l1,dcF oM,cdF]
end
theorem mf{n:Nat}{h:Nat->Option Nat}(g:CG n h){nat co:List Int}{ed:Eds}{lo:Los}{fo:List (Int×Unit)}(hel:∀z,(Option.getD (ac ed z) []).length<=1000)(hed:∀z e,e∈Option.getD (ac ed z) []->z<=e.frm):∀(d k F:Nat),n - k=d->k<n->d<=F->f40 F (mR n λj=>decide (j<k)) nat (Bk n h) co ed lo [] fo (k:Int)=some (mR n λ_=>true,dsc n k)
 |0,k,F,hd,hk,hF=>oM
 |d+1,k,0,hd,hk,hF=>oM
 |d+1,k,F+1,hd,hk,hF=>by
  have hle:=g.le;rw[show f40 (F+1)=f40s (f40 F) from rfl];unfold f40s;rw[bE hk,bnS,af,gw h hk,bnS,Int.toNat_natCast,gk];have es:mR n (λx=>if x=k then true else decide (x<k))=mR n (λj=>decide (j<k+1)):=di λx=>by
   by_cases hx:x=k;subst hx;rw[if_pos rfl,dcT oM];rw[if_neg hx];exact decide_eq_decide.2 oM
  rw[es];have ih:=λ(hk1:k+1<n)=>mf g (nat:=nat) (co:=co) (lo:=lo) (fo:=fo) hel hed d (k+1) F oM hk1 oM;have hdsc:=oU hk;have fin:∀(l:List Int),l=dsc n (k+1)->(au (aO 8 l [(k:Int)])<|some (mR n λ_=>true,(l++ [(k:Int)])))=some (mR n λ_=>true,dsc n k):=λl hl=>by
   subst hl;rw[aq _ (dM (by rw[bX];simp;omega)),<-hdsc]
  have all:k+1=n->mR n (λj=>decide (j<k+1))=mR n (λ_=>true):=λhkn=>gF λx hx=>dcT oM;have hd0:k+1=n->([]:List Int)=dsc n (k+1):=λhkn=>by unfold dsc;rw[show n - (k+1)=0 by omega];rfl
  have sF:∀z:Nat,z<=k->(λj=>decide (j<k+1)) z=true:=λz hz=>dcT oM;have nF:(λj=>decide (j<k+1)) (k+1)=false:=dcF oM;have hne:∀e∈Option.getD (ac ed ((k+1:Nat):Int)) [],e.frm≠(k:Int):=λe he=>by have:=hed _ e he;omega
  rcases fk g hk with⟨_,h1,h2⟩|⟨_,h1,h2⟩|⟨z,hz,_,h1,h2⟩|⟨z,hz,_,h1,h2⟩
  rw[h2];refine(uU (b:=⟨0,0,[((k+1:Nat):Int)]⟩) (i:=0) (m:=1) rfl oM h1 nF (hel _) hne (ih h1)).trans ?_;refine(qi (b:=⟨0,0,[((k+1:Nat):Int)]⟩) (m:=0)).trans ?_;exact fin _ rfl;rw[h2,all h1];refine(qi (b:=⟨0,0,[]⟩) (m:=0)).trans ?_;exact fin _ (hd0 h1);rw[h2];refine(r8 (b:=⟨0,0,[(z:Int),((k+1:Nat):Int)]⟩) (i:=0) (m:=2) rfl oM oM (sF z hz)).trans ?_;refine(uU (b:=⟨0,0,[(z:Int),((k+1:Nat):Int)]⟩) (i:=1) (m:=1) rfl oM h1 nF (hel _) hne (ih h1)).trans ?_;refine(qi (b:=⟨0,0,[(z:Int),((k+1:Nat):Int)]⟩) (m:=0)).trans ?_;exact fin _ rfl;rw[h2];refine(r8 (b:=⟨0,0,[(z:Int)]⟩) (i:=0) (m:=1) rfl oM oM (sF z hz)).trans ?_;rw[all h1];refine(qi (b:=⟨0,0,[(z:Int)]⟩) (m:=0)).trans ?_;exact fin _ (hd0 h1)
abbrev Fnd:=List (Int×Unit)
abbrev Mi:=List (Int×Int)
abbrev Mb:=List (Int×Bool)
abbrev Rt:=Option (Fnd×Mi)
abbrev gI(m:Mi)(z:Int):Int:=Option.getD (ac m z) 0
abbrev gB(m:Mb)(z:Int):Bool:=Option.getD (ac m z) false
theorem hP(m:Mi)(k v z:Int):gI (ai m k v) z=if k=z then v else gI m z:=by unfold gI;rw[aF];split<;>rfl
theorem nl(m:Mb)(k z:Int):gB (ai m k true) z=(decide (k=z)||gB m z):=sI m k z
theorem j0{α:Type}:∀(m:List (Int×α))(k:Int)(v:α),(kys m).Nodup->(kys (ai m k v)).Nodup
 |[],k,v,_=>by simp[ai,kys]
 |p::m,k,v,h=>by
  by_cases hk:k∈kys (p::m);have e:∀m':List (Int×α),k∈kys m'->kys (ai m' k v)=kys m':=λm'=>by
   induction m' with
   |nil=>intro h;cases h
   |cons q m' ih=>
    intro h;unfold ai;by_cases e:q.1=k;rw[if_pos e];simp[kys,e];rw[if_neg e];have h':k∈kys m':=by
     rcases List.mem_cons.1 h with h|h
     exact absurd h.symm e;exact h
    have:=ih h';simp only[kys,List.map_cons] at this⊢;rw[this]
  rw[e _ hk];exact h;rw[oH hk];unfold kys at h hk⊢;rw[List.map_append,List.nodup_append];exact⟨h,sM,λa ha b hb=>by
   have:b=k:=by simpa using hb
   rw[this];exact λe=>hk (e▸ha)⟩
theorem kw{a v:Int}(ha:0<=a/\a<=1125899906842624)(hv:0<=v/\v<=1125899906842624):f46 a [v]=some (a+v):=by unfold f46;rw[af,show Int.toNat ((List.length [v]:Int) - 0)+1=2 from rfl,f46_l1,dcT (show(0:Int)<(List.length [v]:Int) by simp),cdT];show f46_l1 [v] _ 1 _ 1=_;rw[f46_l1,dcF (show¬(1:Int)<(List.length [v]:Int) by simp),cdF];rw[w64 oM oM,if_neg oM]
theorem rT{b v:Int}(hb:0<=b/\b<=2147483647)(hv:0<=v/\v<=1125899906842624)(h:b*v<=1125899906842624):f82 b v=some (b*v):=by
 have h0:0<=b*v:=Int.mul_nonneg hb.1 hv.1;unfold f82;by_cases hv0:v=0;subst hv0;rw[dcF oM,cdF,bnS,cdF,w64 oM oM];have hq:b<=Int.tdiv 9007199254740993 v:=by rw[Int.tdiv_eq_ediv_of_nonneg oM];exact Int.le_ediv_of_mul_le oM oM
 have hq2:Int.tdiv 9007199254740993 v<=9007199254740993:=by rw[Int.tdiv_eq_ediv_of_nonneg oM];exact Int.ediv_le_self _ oM
 rw[dcT oM,cdT,aq _ (by simp[nz];omega),bnS,w64 oM oM,dcF oM,cdF,w64 oM oM]
theorem jt{L:List Int}{v:Int}(hl:L.length<=100000):f35 L v=some (decide (v∈L)):=by
 unfold f35 f69;rw[af];obtain⟨r,h1,h2⟩:=qB L (f69_l1 L v λ_=>some (-1)) (λx=>decide (v=x)) oM (λn i h=>by
  rw[f69_l1,vO h,cdT,aZ h,bnS,w1 h oM]) (λn=>by rw[f69_l1,vQ,cdF]) (Int.toNat ((L.length:Int) - 0)+1) 0 (Nat.zero_le _) oM
 rw[show((0:Nat):Int)=0 from rfl] at h1;rw[h1,bnS,h2,List.drop_zero];congr 1;by_cases h:v∈L;rw[dcT h,List.any_eq_true.2 ⟨v,h,dcT rfl⟩];rw[dcF h,List.any_eq_false.2 λx hx=>by rw[decide_eq_true_eq];exact λe=>h (e▸hx)]
theorem in1(B:List Int)(hl:B.length<=100000)(K:Mb->Rt):∀(m i:Nat)(mm:Mb),i<=B.length->B.length<m+i->∃m',f19s_l1 B K m (i:Int) mm=K m'/\∀z,gB m' z=(gB mm z||decide (z∈B.drop i))
 |0,i,_,_,h=>oM
 |m+1,i,mm,hi,hm=>by
  rw[f19s_l1];by_cases hlt:i<B.length;obtain⟨m',h1,h2⟩:=in1 B hl K m (i+1) (ai mm B[i] true) oM oM;rw[ltb hlt,cdT,aZ hlt,bnS,w1n oM,h1];refine⟨m',rfl,λz=>?_⟩;rw[h2,nl,List.drop_eq_getElem_cons hlt];by_cases e:B[i]=z;rw[dcT e,dcT (show z∈B[i]::B.drop (i+1) by rw[e];simp)];simp;rw[dcF e,Bool.false_or];congr 1;exact decide_eq_decide.2 ⟨λh=>List.mem_cons_of_mem _ h,λh=>by
   rcases List.mem_cons.1 h with h|h
   exact absurd h.symm e;exact h⟩
  rw[ltf hlt,cdF,List.drop_eq_nil_of_le oM];exact⟨mm,rfl,λz=>sM⟩
theorem in2{no:List Int}(hno:no.length<=1000)(ed:Eds)(hd:Int)(In:Mb)(K:List Int->Rt):∀(m i:Nat)(lw:List Int),i<=no.length->i<m->lw.length<=2000 - i->∃lw',f19s_l2 no ed hd In K m ((i:Int) - 1) lw=K lw'/\lw'.length<=2000/\∀z,z∈lw'↔z∈lw\/(z∈no.take i/\gB In z=true/\z≠hd/\Option.getD (ac ed z) []≠[])
 |0,i,_,_,h,_=>oM
 |m+1,i,lw,hi,hm,hl=>by
  rw[f19s_l2];cases i with
  |zero=>rw[dcF oM,cdF];exact⟨lw,rfl,oM,λz=>sM⟩
  |succ i=>
   have hlt:i<no.length:=oM;rw[show((i+1:Nat):Int) - 1=(i:Int) by omega,dcT oM,cdT,aZ hlt,bnS,af,af,w64 (x:=(i:Int) - 1) oM oM];have ht:no.take (i+1)=no.take i++ [no[i]]:=List.take_succ_eq_append_getElem hlt;have hlen:∀L:List aT,decide ((L.length:Int)>0)=decide (L≠[]):=λL=>decide_eq_decide.2 (by cases L<;>simp);cases hc:((gB In no[i]&& !decide (no[i]=hd))&&decide ((List.length (Option.getD (ac ed no[i]) []):Int)>0)) with
   |true=>obtain⟨lw',h1,h0,h2⟩:=in2 hno ed hd In K m i (lw++ [no[i]]) oM oM (by simp;omega);rw[cdT,aq _ (dM (by simp;omega))];refine⟨lw',h1,h0,λz=>?_⟩;rw[h2,ht];rw[hlen] at hc;simp only[Bool.and_eq_true,Bool.not_eq_true',decide_eq_false_iff_not,decide_eq_true_eq] at hc;simp only[List.mem_append,List.mem_singleton];constructor;rintro((h|h)|h);exact .inl h;exact .inr ⟨.inr h,by rw[h];exact hc.1.1,by rw[h];exact hc.1.2,by rw[h];exact hc.2⟩;exact .inr ⟨.inl h.1,h.2⟩;rintro(h|⟨h|h,h3⟩);exact .inl (.inl h);exact .inr ⟨h,h3⟩;exact .inl (.inr h)
   |false=>obtain⟨lw',h1,h0,h2⟩:=in2 hno ed hd In K m i lw oM oM oM;rw[cdF];refine⟨lw',h1,h0,λz=>?_⟩;rw[h2,ht];rw[hlen] at hc;simp only[List.mem_append,List.mem_singleton];constructor;rintro(h|h);exact .inl h;exact .inr ⟨.inl h.1,h.2⟩;rintro(h|⟨h|h,h3⟩);exact .inl h;exact .inr ⟨h,h3⟩;rw[h] at h3;rw[h3.1,dcF h3.2.1,dcT h3.2.2] at hc;cases hc
theorem in6{lo:Los}{m216:Mi}{x:Int}{thr:Mi}{L:List Int}(hL:Option.getD (ac lo x) []=L)(hl:L.length<=1000){A T:Int}(hA:gI m216 x=A)(hA2:0<=A/\A<=1125899906842624)(ht:∀z,0<=gI thr z/\gI thr z<=T)(hT:T<=1125899906842624)(K:Mi->Mb->Rt):∀(m i:Nat)(d:Mi)(dn:Mb),i<=L.length->L.length<m+i->∃d' dn',f19s_l6 lo m216 x thr K m (i:Int) d dn=K d' dn'/\(∀z,gB dn' z=(gB dn z||decide (z∈L.drop i)))/\((kys d).Nodup->(kys d').Nodup)/\∀z,ac d' z=if z∈L.drop i then some (A+gI thr z) else ac d z
 |0,i,_,_,_,h=>oM
 |m+1,i,d,dn,hi,hm=>by
  rw[f19s_l6,hL];by_cases hlt:i<L.length;obtain⟨d',dn',h1,h2,h3,h4⟩:=in6 hL hl hA hA2 ht hT K m (i+1) (ai d L[i] (A+gI thr L[i])) (ai dn L[i] true) oM oM;rw[ltb hlt,cdT,aZ hlt,bnS,show Option.getD (ac m216 x) 0=A from hA,kw hA2 ⟨(ht _).1,by have:=(ht L[i]).2;omega⟩,bnS,fc,w1n oM,h1];refine⟨d',dn',rfl,λz=>?_,λh=>h3 (j0 _ _ _ h),λz=>?_⟩;rw[h2,nl,List.drop_eq_getElem_cons hlt];by_cases e:L[i]=z;rw[dcT e,dcT (show z∈L[i]::L.drop (i+1) by rw[e];simp)];simp;rw[dcF e,Bool.false_or];congr 1;exact decide_eq_decide.2 ⟨λh=>List.mem_cons_of_mem _ h,λh=>by
   rcases List.mem_cons.1 h with h|h
   exact absurd h.symm e;exact h⟩
  rw[h4,aF,List.drop_eq_getElem_cons hlt];by_cases e:L[i]=z;subst e;rw[if_pos rfl,if_pos List.mem_cons_self,ite_self];rw[if_neg e];by_cases hz:z∈L.drop (i+1);rw[if_pos hz,if_pos (List.mem_cons_of_mem _ hz)];rw[if_neg hz,if_neg λh=>by
   rcases List.mem_cons.1 h with h|h
   exact e h.symm;exact hz h]
  rw[ltf hlt,cdF,List.drop_eq_nil_of_le oM];exact⟨d,dn,rfl,λz=>sM,λh=>h,λz=>sM⟩
theorem mr{lo:Los}{m216:Mi}{x:Int}{t1 t2:Mi}(h:∀z,ac t1 z=ac t2 z)(K:Mi->Mb->Rt):∀(m:Nat)(i:Int)(d:Mi)(dn:Mb),f19s_l6 lo m216 x t1 K m i d dn=f19s_l6 lo m216 x t2 K m i d dn
 |0,_,_,_=>rfl
 |m+1,i,d,dn=>by
  rw[f19s_l6,f19s_l6];simp only[h,mr h K m]
theorem gE{α:Type}:∀{m:List (Int×α)},(kys m).Nodup->∀{k v},(k,v)∈m->ac m k=some v
 |p::m,h,k,v,hm=>by
  have h':=List.nodup_cons.1 (show(p.1::kys m).Nodup from h);unfold ac;rcases List.mem_cons.1 hm with rfl|hm
  rw[if_pos rfl];rw[if_neg λe'=>h'.1 (by rw[show p.1=k from e'];exact List.mem_map.2 ⟨_,hm,rfl⟩)];exact gE h'.2 hm
theorem sL{α:Type}{m l:List (Int×α)}(hp:l.Perm m)(h:(kys m).Nodup)(z:Int):ac l z=ac m z:=by
 have h2:(kys l).Nodup:=(hp.map _).nodup_iff.2 h;cases hz:ac l z with
 |some v=>exact(gE h (hp.mem_iff.1 (ej hz))).symm
 |none=>
  cases hz2:ac m z with
  |none=>rfl
  |some v=>rw[gE h2 (hp.mem_iff.2 (ej hz2))] at hz;cases hz
theorem sP{R T:Int}(hR:0<=R/\R<=1125899906842624)(hT:T<=1125899906842624):∀(l acc:Mi),(kys l).Nodup->(∀k v,(k,v)∈l->0<=v/\v<=T)->∃m',eN (f19s_m5 R) l acc=some m'/\((kys acc).Nodup->(kys m').Nodup)/\∀z,ac m' z=match ac l z with|some v=>some (R+v)|none=>ac acc z
 |[],acc,_,_=>⟨acc,rfl,λh=>h,λz=>rfl⟩
 |p::l,acc,hn,hv=>by
  have h':=List.nodup_cons.1 (show(p.1::kys l).Nodup from hn);have hp:=hv p.1 p.2 List.mem_cons_self;obtain⟨m',h1,h2,h3⟩:=sP hR hT l (ai acc p.1 (R+p.2)) h'.2 λk v h=>hv k v (List.mem_cons_of_mem _ h);refine⟨m',?_,λh=>h2 (j0 _ _ _ h),λz=>?_⟩;rw[eN,f19s_m5,kw hR ⟨hp.1,oM⟩,bnS,bnS,h1];rw[h3,aF];show _=match(if p.1=z then some p.2 else ac l z) with|some v=>some (R+v)|none=>ac acc z
  by_cases e:p.1=z;subst e;rw[if_pos rfl,if_pos rfl,gi.2 h'.1];rw[if_neg e,if_neg e]
theorem rng5{R T:Int}(hR:0<=R/\R<=1125899906842624)(hT:T<=1125899906842624){m:Mi}(hn:(kys m).Nodup)(hv:∀z v,ac m z=some v->0<=v/\v<=T)(K:Mi->Rt)(hK:∀a b,(∀z,ac a z=ac b z)->K a=K b):∃m',(kys m').Nodup/\(∀z,ac m' z=(ac m z).map (R+·))/\∀r,K m'=some r->cA m (f19s_m5 R) K []=some r:=by
 have hv':∀l:Mi,l.Perm m->∀k v,(k,v)∈l->0<=v/\v<=T:=λl hp k v h=>hv k v (gE hn (hp.mem_iff.1 h));have hz:∀l:Mi,l.Perm m->∀m':Mi,(∀z,ac m' z=match ac l z with|some v=>some (R+v)|none=>ac [] z)->∀z,ac m' z=(ac m z).map (R+·):=λl hp m' h z=>by
  rw[h,sL hp hn];cases ac m z<;>rfl
 obtain⟨m',h1,h2,h3⟩:=sP hR hT m [] hn (hv' m (List.Perm.refl _));refine⟨m',h2 (by simp[kys]),hz m (List.Perm.refl _) m' h3,λr hr=>ei λl hp=>?_⟩;obtain⟨m2,g1,_,g3⟩:=sP hR hT l [] ((hp.map _).nodup_iff.2 hn) (hv' l hp);rw[g1,bnS,<-hr];exact hK _ _ λz=>by rw[hz l hp m2 g3,hz m (List.Perm.refl _) m' h3]
inductive Pt(n:Nat)(h:Nat->Option Nat)(c bd:Nat->Int):Nat->Nat->Nat->Int->Prop
 |st {a b:Nat}:a<=b->Pt n h c bd a b a 0
 |fr (b:Nat):Pt n h c bd n b 0 0
 |go {a b f:Nat} {A:Int}:Pt n h c bd a b f A->f<=b->(f=a\/∀y,h y≠some f)->Pt n h c bd a b (f+1) (A+c f)
 |lp {a b f y:Nat} {A S:Int}:Pt n h c bd a b f A->f≠a->h y=some f->y<=b->Pt n h c bd f y (y+1) S->Pt n h c bd a b (y+1) (A+(bd f*S+S))
abbrev Whl(n:Nat)(h:Nat->Option Nat)(a b:Nat):Prop:=h b=some a\/((a=n\/(a=0/\∀y,h y≠some 0))/\b+1=n)
structure NT(n:Nat)(h:Nat->Option Nat)(c bd:Nat->Int)(nb:List aj)(nc no:List Int)(ed:Eds)(lo:Los):Prop where
 nol:no.length=n\/(no.length=n+1/\idx no (n:Int)=some (n:Int))
 nb:∀i,i<n->idx nb (i:Int)=some ⟨0,0,Nx n h i⟩
 nc:∀i,i<n->idx nc (i:Int)=some (c i)
 no:∀k,k<n->idx no ((n - 1 - k:Nat):Int)=some (k:Int)
 ed1:∀y a,h y=some a->ac ed (a:Int)=some [⟨(y:Int),bd a⟩]
 ed0:∀z:Int,(∀y a,h y=some a->z≠(a:Int))->Option.getD (ac ed z) []=[]
 lo:∀y a,h y=some a->ac lo (a:Int)=some (seg a y)
 cost:∀i,0<=c i/\c i<=1000
 bdr:∀a,0<=bd a/\bd a<=2147483647
 top:∀a b f A,Whl n h a b->Pt n h c bd a b f A->0<=A/\A<=1125899906842624
theorem fA(a b:Nat):(seg a b).length=b+1 - a:=by simp[seg]
theorem tU{a b i:Nat}(h:i<b+1 - a):idx (seg a b) (i:Int)=some ((a+i:Nat):Int):=by rw[aZ (by rw[fA];exact h)];simp[seg,List.getElem_range']
section
variable{n:Nat}{h:Nat->Option Nat}
theorem uw(g:CG n h){f b y z:Nat}(hb:h b=some f)(h1:f<=y)(h2:y<=b)(hz:h y=some z):f<=z:=by
 rcases Nat.lt_or_ge z f with h3|h3
 have:=g.nest y z b f hz hb h3 h1;have:y=b:=oM;subst this;rw[hz] at hb;cases hb;exact Nat.le_refl _;exact h3
variable{lo:Los}{hd:Int}{In:Mb}{x:Int}{m278:Mi}{b:aj}
theorem j8{K:Mi->Rt}{m t:Nat}{mm:Mi}{y:Int}{L:List Int}(hL:Option.getD (ac lo x) []=L)(hl:L.length<=100000){z:Int}(hz:idx b.next (t:Int)=some z)(ht:t<1000)(hs:gB In z=true->z≠hd->z∈L):f19s_l8 lo hd In x m278 y K b (m+1) (t:Int) mm=f19s_l8 lo hd In x m278 y K b m ((t+1:Nat):Int) mm:=by
 have h1:=cQ hz;rw[f19s_l8,dcT oM,cdT,af,hz,bnS,w1n oM,hL];cases hi:gB In z with
 |false=>rw[show Option.getD (ac In z) false=false from hi,Bool.false_and,cdF]
 |true=>rw[show Option.getD (ac In z) false=true from hi,Bool.true_and];by_cases e:z=hd;rw[dcT e,Bool.not_true,cdF];rw[dcF e,Bool.not_false,cdT,af,jt hl,bnS,dcT (hs hi e)];rfl
theorem vU{K:Mi->Rt}{m t:Nat}{mm:Mi}{y:Int}{L:List Int}(hL:Option.getD (ac lo x) []=L)(hl:L.length<=100000){z:Int}(hz:idx b.next (t:Int)=some z)(ht:t<1000)(hi:gB In z=true)(e:z≠hd)(hs:z∉L):f19s_l8 lo hd In x m278 y K b (m+1) (t:Int) mm=f19s_l8 lo hd In x m278 y K b m ((t+1:Nat):Int) (ai mm z (if gI m278 y>gI mm z then gI m278 y else gI mm z)):=by have h1:=cQ hz;rw[f19s_l8,dcT oM,cdT,af,hz,bnS,w1n oM,hL,show Option.getD (ac In z) false=true from hi,Bool.true_and,dcF e,Bool.not_false,cdT,af,jt hl,bnS,dcF hs];rfl
theorem kV{K:Mi->Rt}{m:Nat}{mm:Mi}{y:Int}:f19s_l8 lo hd In x m278 y K b (m+1) (b.next.length:Int) mm=K mm:=by rw[f19s_l8,dcF oM,cdF]
theorem ng{K:Mi->Rt}{m t:Nat}{mm d:Mi}{r z:Int}(hz:idx b.next (t:Int)=some z)(ht:t<1000)(hs:gB In z=true->z=hd):f19s_l9 hd In d x r K b (m+1) (t:Int) mm=f19s_l9 hd In d x r K b m ((t+1:Nat):Int) mm:=by
 have h1:=cQ hz;rw[f19s_l9,dcT oM,cdT,af,hz,bnS,w1n oM];cases hi:gB In z with
 |false=>rw[show Option.getD (ac In z) false=false from hi,Bool.false_and,cdF]
 |true=>rw[show Option.getD (ac In z) false=true from hi,Bool.true_and,dcT (hs hi),Bool.not_true,cdF]
theorem sJ{K:Mi->Rt}{m t:Nat}{mm d:Mi}{r z:Int}(hz:idx b.next (t:Int)=some z)(ht:t<1000)(hi:gB In z=true)(e:z≠hd):f19s_l9 hd In d x r K b (m+1) (t:Int) mm=f19s_l9 hd In d x r K b m ((t+1:Nat):Int) (ai mm z (if r>gI mm z then r else gI mm z)):=by have h1:=cQ hz;rw[f19s_l9,dcT oM,cdT,af,hz,bnS,w1n oM,show Option.getD (ac In z) false=true from hi,Bool.true_and,dcF e,Bool.not_false,cdT,af];show f19s_l9 hd In d x r K b m _ (ai mm z (if Option.getD (ac (ai (bw d x 0) x r) x) 0>_ then Option.getD (ac (ai (bw d x 0) x r) x) 0 else _))=_;rw[fc,aF,if_pos rfl,Option.getD_some]
theorem kU{K:Mi->Rt}{m:Nat}{mm d:Mi}{r:Int}:f19s_l9 hd In d x r K b (m+1) (b.next.length:Int) mm=K mm:=by rw[f19s_l9,dcF oM,cdF]
def upd(hd:Int)(In:Mb)(n:Nat)(y:Nat)(v:Int)(mm:Mi):Mi:=if y+1<n/\gB In ((y+1:Nat):Int)=true/\((y+1:Nat):Int)≠hd then ai mm ((y+1:Nat):Int) (if v>gI mm ((y+1:Nat):Int) then v else gI mm ((y+1:Nat):Int)) else mm
theorem in8(g:CG n h){f bb y:Nat}(hb:h bb=some f)(hL:Option.getD (ac lo x) []=seg f bb)(h1:f<=y)(h2:y<=bb)(K:Mi->Rt)(mm:Mi):f19s_l8 lo hd In x m278 (y:Int) K ⟨0,0,Nx n h y⟩ (Int.toNat (((Nx n h y).length:Int) - 0)+1) 0 mm=K (if y=bb then upd hd In n y (gI m278 (y:Int)) mm else mm):=by
 have hle:=g.le;have hbn:=(g.back bb f hb).2;have hl:(seg f bb).length<=100000:=by rw[fA];omega
 have hbk:∀z,h y=some z->((z:Nat):Int)∈seg f bb:=λz hz=>by
  have:=uw g hb h1 h2 hz;have:=g.back y z hz;exact fy.2 ⟨z,rfl,oM,oM⟩
 have hin:y≠bb->((y+1:Nat):Int)∈seg f bb:=λe=>fy.2 ⟨y+1,rfl,oM,oM⟩;have hout:y=bb->((y+1:Nat):Int)∉seg f bb:=λe hm=>by
  obtain⟨w,h3,_,h4⟩:=fy.1 hm;omega
 have last:∀(m t:Nat)(L:List Int),y+1<n->t<1000->idx L (t:Int)=some ((y+1:Nat):Int)->L.length=t+1->f19s_l8 lo hd In x m278 (y:Int) K ⟨0,0,L⟩ (m+1+1) (t:Int) mm=K (if y=bb then upd hd In n y (gI m278 (y:Int)) mm else mm):=λm t L hy1 ht hz hll=>by
  by_cases e:y=bb;rw[if_pos e];unfold upd;by_cases hc:gB In ((y+1:Nat):Int)=true/\((y+1:Nat):Int)≠hd;rw[if_pos ⟨hy1,hc⟩,vU (b:=⟨0,0,L⟩) hL hl hz ht hc.1 hc.2 (hout e),<-hll];exact kV (b:=⟨0,0,L⟩);rw[if_neg λh'=>hc h'.2,j8 (b:=⟨0,0,L⟩) hL hl hz ht (λh3 h4=>absurd ⟨h3,h4⟩ hc),<-hll];exact kV (b:=⟨0,0,L⟩);rw[if_neg e,j8 (b:=⟨0,0,L⟩) hL hl hz ht λ_ _=>hin e,<-hll];exact kV (b:=⟨0,0,L⟩)
 have hno:y+1=n->(if y=bb then upd hd In n y (gI m278 (y:Int)) mm else mm)=mm:=λe=>by
  split;unfold upd;rw[if_neg λh'=>by omega];rfl
 rcases fk g (show y<n by omega) with⟨_,h3,h4⟩|⟨_,h3,h4⟩|⟨z,hz,hh,h3,h4⟩|⟨z,hz,hh,h3,h4⟩
 rw[h4];exact last 0 0 _ h3 oM rfl rfl;rw[h4,hno h3];exact kV (b:=⟨0,0,[]⟩);rw[h4];refine(j8 (b:=⟨0,0,[(z:Int),((y+1:Nat):Int)]⟩) (m:=2) (t:=0) hL hl rfl oM λ_ _=>hbk z hh).trans ?_;exact last 0 1 _ h3 oM rfl rfl;rw[h4,hno h3];refine(j8 (b:=⟨0,0,[(z:Int)]⟩) (m:=1) (t:=0) hL hl rfl oM λ_ _=>hbk z hh).trans ?_;exact kV (b:=⟨0,0,[(z:Int)]⟩)
theorem in7{nb:List aj}(hnb:∀i,i<n->idx nb (i:Int)=some ⟨0,0,Nx n h i⟩)(g:CG n h){f bb:Nat}(hb:h bb=some f)(hL:Option.getD (ac lo x) []=seg f bb)(K:Fnd->Mi->Mi->Mb->Mi->Mi->Rt)(m241:Fnd)(m242 m243:Mi)(m279:Mb):∀(m i:Nat)(mm:Mi),i<=bb+1 - f->bb+1 - f<m+i->f19s_l7 nb lo hd In x K m241 m242 m243 m278 m279 m (i:Int) mm=K m241 (if i<bb+1 - f then upd hd In n bb (gI m278 (bb:Int)) mm else mm) m278 m279 m242 m243
 |0,i,_,_,h=>oM
 |m+1,i,mm,hi,hm=>by
  have hle:=g.le;have hbf:=g.back bb f hb;rw[f19s_l7,hL,fA];by_cases hlt:i<bb+1 - f;rw[ltb hlt,cdT,tU hlt,bnS,af,hnb _ oM,bnS,w1n oM,if_pos hlt];refine(in8 g hb hL (y:=f+i) oM oM _ mm).trans ?_;rw[in7 hnb g hb hL K m241 m242 m243 m279 m (i+1) _ oM oM];by_cases e:f+i=bb;rw[if_pos e,if_neg oM,e];rw[if_neg e,if_pos oM];rw[ltf hlt,cdF,if_neg hlt]
theorem in4{ed:Eds}{y:Nat}{B S:Int}{r247:Fnd×Mi}(he:ac ed x=some [⟨(y:Int),B⟩])(hS:gI r247.2 (y:Int)=S)(hS2:0<=S/\S<=1125899906842624)(hB:0<=B/\B<=2147483647)(hBS:B*S<=1125899906842624)(K:Int->Rt):f19s_l4 ed x r247 K (Int.toNat ((List.length (Option.getD (ac ed x) []):Int) - 0)+1) 0 0=K (B*S):=by rw[he];show f19s_l4 ed x r247 K 2 0 0=_;rw[f19s_l4,he];show(Option.bind (f82 B (gI r247.2 (y:Int))) λr258=>Option.bind (f46 0 [r258]) λr259=>f19s_l4 ed x r247 K 1 r259 (i64.wrap (0+1)))=_;rw[hS,rT hB hS2 hBS,bnS,kw oM ⟨Int.mul_nonneg hB.1 hS2.1,hBS⟩,bnS,f19s_l4,he,show(0:Int)+B*S=B*S from Int.zero_add _];rfl
end
structure Iv(n:Nat)(h:Nat->Option Nat)(c bd:Nat->Int)(hd lo b:Nat)(fo0:Fnd)(k f:Nat)(A:Int)(fo:Fnd)(arr d:Mi)(dn:Mb):Prop where
 pt:Pt n h c bd hd b f A
 lf:lo<=f/\f<=b+1
 kf:k<=f\/b<f
 ar:f<=b->gI arr (f:Int)=A/\∀y:Nat,f<y->y<=b->gI arr (y:Int)=0
 dn:∀y:Nat,y<n->gB dn (y:Int)=decide (lo<=y/\y<f)
 nd:(kys d).Nodup
 dv:∀z v,ac d z=some v->0<=v/\v<=A
 dl:lo<f->ac d ((f - 1:Nat):Int)=some A
 fo1:∀y:Nat,f<=y->y<=b->y≠hd->ac fo (y:Int)=none
 fo2:∀z,ac fo z≠none->ac fo0 z≠none\/∃y:Nat,z=y/\lo<=y/\y<=b/\y≠hd
 ins:∀y z,h y=some z->z≠hd->lo<=z->z<f->y<f
def OkR(n:Nat)(h:Nat->Option Nat)(c bd:Nat->Int)(f b:Nat)(fo0 fo':Fnd)(once:Mi)(S:Int):Prop:=Pt n h c bd f b (b+1) S/\(kys once).Nodup/\(∀z v,ac once z=some v->0<=v/\v<=S)/\ac once (b:Int)=some S/\∀z,ac fo' z≠none->ac fo0 z≠none\/∃y:Nat,z=y/\f<y/\y<=b
theorem wj{n:Nat}{h:Nat->Option Nat}{c bd:Nat->Int}{nb:List aj}{nc no:List Int}{ed:Eds}{lo:Los}(t:NT n h c bd nb nc no ed lo){a b f y:Nat}{A S:Int}(w:Whl n h a b)(p:Pt n h c bd a b f A)(hf:f≠a)(hy:h y=some f)(hyb:y<=b)(q:Pt n h c bd f y (y+1) S):0<=S/\0<=bd f*S/\A+(bd f*S+S)<=1125899906842624/\0<=A:=
 have hS:=(t.top _ _ _ _ (.inl hy) q).1
 ⟨hS,Int.mul_nonneg (t.bdr f).1 hS,(t.top _ _ _ _ w (.lp p hf hy hyb q)).2,(t.top _ _ _ _ w p).1⟩
theorem qx{n:Nat}{h:Nat->Option Nat}{c bd:Nat->Int}{nat:List Int}{nb:List aj}{nc no:List Int}{ed:Eds}{los:Los}(g:CG n h)(t:NT n h c bd nb nc no ed los){hd lo b:Nat}{fo0:Fnd}{In:Mb}{lw:List Int}
  (htop:Whl n h hd b)(hbn:b<n)(hIn:∀y:Nat,y<n->gB In (y:Int)=decide (lo<=y/\y<=b))(hlwl:lw.length<=100000)(hlw:∀y:Nat,y<n->((y:Int)∈lw↔gB In (y:Int)=true/\(y:Int)≠(hd:Int)/\Option.getD (ac ed (y:Int)) []≠[]))
  (hnx:∀y,lo<=y->y+1<=b->y+1≠hd)(hbb:∀y z,h y=some z->z≠hd->lo<=z->z<=b->y<=b)
  {rec19:(List Int)->(List aj)->(List Int)->(List Int)->Eds->Los->Fnd->Int->(List Int)->Option (Fnd×Mi)}
  (hrec:∀f y fo1,h y=some f->f≠hd->lo<=f->y<=b->(∀w:Nat,f<w->w<=y->ac fo1 (w:Int)=none)->∃fo' once S,rec19 nat nb nc no ed los fo1 (f:Int) (seg f y)=some (fo',once)/\OkR n h c bd f y fo1 fo' once S)
  (K:Fnd->Mi->Mi->Mb->Rt):∀(m k f:Nat)(A:Int)(fo:Fnd)(arr d:Mi)(dn:Mb),k<=n->n<m+k->Iv n h c bd hd lo b fo0 k f A fo arr d dn->∃A' fo' arr' d' dn',(∀r,K fo' arr' d' dn'=some r->f19s_l3 rec19 nat nb nc no ed los (hd:Int) In lw K m ((n:Int) - 1 - k) fo arr d dn=some r)/\Iv n h c bd hd lo b fo0 n (b+1) A' fo' arr' d' dn'
 |0,k,f,A,fo,arr,d,dn,_,hm,_=>oM
 |m+1,k,f,A,fo,arr,d,dn,hk,hm,iv=>by
  have hle:=g.le;by_cases hlt:k<n;have e0:i64.wrap (((n - 1 - k:Nat):Int) - 1)=(n:Int) - 1 - ((k+1:Nat):Int):=by rw[w64 oM oM];omega
  have ih:=λf A fo arr d dn=>qx (fo0:=fo0) g t htop hbn hIn hlwl hlw hnx hbb hrec K m (k+1) f A fo arr d dn oM oM;have hst:∀{R:Rt},f19s_l3 rec19 nat nb nc no ed los (hd:Int) In lw K (m+1) ((n:Int) - 1 - k) fo arr d dn=R->f19s_l3 rec19 nat nb nc no ed los (hd:Int) In lw K (m+1) ((n:Int) - 1 - k) fo arr d dn=R:=λh=>h;rw[show(n:Int) - 1 - k=((n - 1 - k:Nat):Int) by omega];by_cases hskip:lo<=k/\k<=b/\¬k<f;have hkf:f=k:=by rcases iv.kf with h1|h1<;>omega
  subst hkf;obtain⟨hlk,hkb,_⟩:=hskip;have hA:=t.top _ _ _ _ htop iv.pt;have har:=iv.ar hkb;have hInk:Option.getD (ac In (f:Int)) false=true:=(hIn f hlt).trans (dcT ⟨hlk,hkb⟩);have hdnk:Option.getD (ac dn (f:Int)) false=false:=(iv.dn f hlt).trans (dcF oM);by_cases hinner:f≠hd/\∃y,h y=some f
  -- a loop that is inside
  obtain⟨hne,y,hy⟩:=hinner;have hyb:=hbb y f hy hne hlk hkb;have hyf:=g.back y f hy;have hmem:(f:Int)∈lw:=(hlw f hlt).2 ⟨hInk,oM,by rw[t.ed1 y f hy];simp⟩;obtain⟨fo',once,S,hr,hok⟩:=hrec f y fo hy hne hlk hyb λw h1 h2=>by
   by_cases e:w=hd;exfalso;rcases Nat.lt_or_ge w 1 with h3|h3
   omega;exact hnx (w - 1) oM oM oM;exact iv.fo1 w oM oM e
  obtain⟨hpt,hnd,hov,hob,hfo⟩:=hok;have hS:=t.top _ _ _ _ (.inl hy) hpt;have hmul:=wj t htop iv.pt hne hy hyb hpt;have hfnone:ac fo (f:Int)=none:=iv.fo1 f (Nat.le_refl _) hkb hne;have hlo:Option.getD (ac los (f:Int)) []=seg f y:=by rw[t.lo y f hy];rfl
  obtain⟨thr,h1,h2,h3⟩:=rng5 (R:=bd f*S) (T:=S) ⟨hmul.2.1,oM⟩ oM hnd hov (λm260=>f19s_l6 los arr (f:Int) m260 (λ(m278:Mi)(m279:Mb)=>f19s_l7 nb los (hd:Int) In (f:Int) (λ(m230:Fnd)(m231:Mi)(m232:Mi)(m233:Mb)(_:Mi)(_:Mi)=>f19s_l3 rec19 nat nb nc no ed los (hd:Int) In lw K m (i64.wrap (((n - 1 - f:Nat):Int) - 1)) m230 m231 m232 m233) (ai fo' (f:Int) ()) once m260 m278 m279 (Int.toNat ((List.length (Option.getD (ac los (f:Int)) []):Int) - 0)+1) 0 arr) (Int.toNat ((List.length (Option.getD (ac los (f:Int)) []):Int) - 0)+1) 0 d dn) (λa b hab=>by
   have e7:∀m278 m279,f19s_l7 nb los (hd:Int) In (f:Int) (λ(m230:Fnd)(m231:Mi)(m232:Mi)(m233:Mb)(_:Mi)(_:Mi)=>f19s_l3 rec19 nat nb nc no ed los (hd:Int) In lw K m (i64.wrap (((n - 1 - f:Nat):Int) - 1)) m230 m231 m232 m233) (ai fo' (f:Int) ()) once a m278 m279 (Int.toNat ((List.length (Option.getD (ac los (f:Int)) []):Int) - 0)+1) 0 arr=f19s_l7 nb los (hd:Int) In (f:Int) (λ(m230:Fnd)(m231:Mi)(m232:Mi)(m233:Mb)(_:Mi)(_:Mi)=>f19s_l3 rec19 nat nb nc no ed los (hd:Int) In lw K m (i64.wrap (((n - 1 - f:Nat):Int) - 1)) m230 m231 m232 m233) (ai fo' (f:Int) ()) once b m278 m279 (Int.toNat ((List.length (Option.getD (ac los (f:Int)) []):Int) - 0)+1) 0 arr:=λm278 m279=>by
    rw[hlo,fA,show(0:Int)=((0:Nat):Int) from rfl];rw[in7 t.nb g hy hlo _ _ _ _ _ _ 0 _ (Nat.zero_le _) oM,in7 t.nb g hy hlo _ _ _ _ _ _ 0 _ (Nat.zero_le _) oM]
   simp only[e7];exact mr hab _ _ _ _ _)
  have hth:∀z,0<=gI thr z/\gI thr z<=bd f*S+S:=λz=>by
   unfold gI;rw[h2];cases hz:ac once z with
   |none=>show 0<=(0:Int)/\(0:Int)<=_;omega
   |some v=>have:=hov z v hz;show 0<=bd f*S+v/\bd f*S+v<=_;omega
  obtain⟨d',dn',h4,h5,h6,h7⟩:=in6 (lo:=los) (m216:=arr) (x:=(f:Int)) (thr:=thr) hlo (by rw[fA];omega) har.1 ⟨hA.1,hA.2⟩ hth oM (λ(m278:Mi)(m279:Mb)=>f19s_l7 nb los (hd:Int) In (f:Int) (λ(m230:Fnd)(m231:Mi)(m232:Mi)(m233:Mb)(_:Mi)(_:Mi)=>f19s_l3 rec19 nat nb nc no ed los (hd:Int) In lw K m (i64.wrap (((n - 1 - f:Nat):Int) - 1)) m230 m231 m232 m233) (ai fo' (f:Int) ()) once thr m278 m279 (Int.toNat ((List.length (Option.getD (ac los (f:Int)) []):Int) - 0)+1) 0 arr) (Int.toNat ((List.length (Option.getD (ac los (f:Int)) []):Int) - 0)+1) 0 d dn (Nat.zero_le _) (by rw[hlo];omega);rw[show((0:Nat):Int)=0 from rfl] at h4;have hty:gI thr (y:Int)=bd f*S+S:=by unfold gI;rw[h2,hob];rfl
  have hyseg:(y:Int)∈seg f y:=fy.2 ⟨y,rfl,hyf.1,Nat.le_refl _⟩;have hdy:gI d' (y:Int)=A+(bd f*S+S):=by unfold gI;rw[h7,List.drop_zero,if_pos hyseg,hty];rfl
  have hsegn:∀w:Nat,((w:Int)∈seg f y↔f<=w/\w<=y):=λw=>by
   rw[fy];exact⟨λ⟨u,h8,h9,h10⟩=>oM,λh8=>⟨w,rfl,h8.1,h8.2⟩⟩
  have hupd:∀z:Int,gI (upd (hd:Int) In n y (gI d' (y:Int)) arr) z=if y+1<=b/\z=((y+1:Nat):Int) then A+(bd f*S+S) else gI arr z:=λz=>by
   unfold upd;by_cases hy1:y+1<=b;rw[if_pos ⟨oM,(hIn (y+1) oM).trans (dcT ⟨oM,hy1⟩),by have:=hnx y oM hy1;omega⟩,hP,har.2 (y+1) oM hy1,hdy];by_cases e:((y+1:Nat):Int)=z;rw[if_pos e,if_pos (c:=_/\z=_) ⟨hy1,e.symm⟩];split<;>omega;rw[if_neg e,if_neg (c:=_/\z=_) λh'=>e h'.2.symm];rw[if_neg (c:=_/\z=_) λh'=>hy1 h'.1];by_cases hc:y+1<n/\gB In ((y+1:Nat):Int)=true/\((y+1:Nat):Int)≠(hd:Int);have:=(hIn (y+1) hc.1).symm.trans hc.2.1;have:=of_decide_eq_true this;omega;rw[if_neg hc]
  obtain⟨A',fo2,arr2,d2,dn2,g1,g2⟩:=ih (y+1) (A+(bd f*S+S)) (ai fo' (f:Int) ()) (upd (hd:Int) In n y (gI d' (y:Int)) arr) d' dn' {
   pt:= .lp iv.pt hne hy hyb hpt
   lf:=⟨oM,oM⟩
   kf:= .inl oM
   ar:=λhyb1=>⟨by rw[hupd,if_pos ⟨hyb1,rfl⟩],λw h8 h9=>by rw[hupd,if_neg oM,har.2 w oM h9]⟩
   dn:=λw hw=>by
    rw[h5,List.drop_zero,iv.dn w hw];have:=hsegn w;by_cases e:(w:Int)∈seg f y;rw[dcT e,Bool.or_true,dcT];have:=this.1 e;omega;rw[dcF e,Bool.or_false];refine decide_eq_decide.2 ?_;have:¬(f<=w/\w<=y):=λh'=>e (this.2 h');omega
   nd:=h6 iv.nd
   dv:=λz v hz=>by
    rw[h7,List.drop_zero] at hz;split at hz;cases hz;have:=hth z;omega;have:=iv.dv z v hz;omega
   dl:=λ_=>by
    rw[show y+1 - 1=y by omega,h7,List.drop_zero,if_pos hyseg,hty]
   fo1:=λw h8 h9 h10=>by
    rw[aF,if_neg oM];cases hw:ac fo' (w:Int) with
    |none=>rfl
    |some u=>
     rcases hfo w (by rw[hw];simp) with h11|⟨u',h12,h13,h14⟩
     exact absurd (iv.fo1 w oM h9 h10) h11;omega
   fo2:=λz hz=>by
    rw[aF] at hz;by_cases e:(f:Int)=z;exact .inr ⟨f,e.symm,hlk,hkb,hne⟩;rw[if_neg e] at hz;rcases hfo z hz with h11|⟨u',h12,h13,h14⟩
    exact iv.fo2 z h11;refine .inr ⟨u',h12,oM,oM,λe'=>?_⟩;exact hnx (u' - 1) oM oM oM
   ins:=λw z hw hz hlz hzf=>by
    rcases Nat.lt_or_ge z f with h8|h8
    have:=iv.ins w z hw hz hlz h8;omega;rcases Nat.lt_or_ge f z with h9|h9
    have:=g.nest y f w z hy hw h9 oM;omega;have:z=f:=oM;subst this;have:=g.one w y z hw hy;omega }
  refine⟨A',fo2,arr2,d2,dn2,λr hK=>?_,g2⟩;have hfin:=g1 r hK;rw[f19s_l3,dcT oM,cdT,t.no f hlt,bnS,af,af,hInk,hdnk,Bool.not_true,Bool.false_or,cdF,dcF (show¬(f:Int)=(hd:Int) by omega),Bool.not_false,cdT,jt hlwl,bnS,dcT hmem,bnS,cdT,af,hfnone,aq _ (show Option.isNone (none:Option Unit)=true from rfl)];have hr':rec19 nat nb nc no ed los fo (f:Int) (Option.getD (ac los (f:Int)) [])=some (fo',once):=by rw[hlo];exact hr
  rw[hr',bnS,af];refine(in4 (t.ed1 y f hy) (S:=S) (by unfold gI;rw[hob];rfl) hS (t.bdr f) oM _).trans ?_;rw[af];refine h3 r ?_;rw[h4,hlo,fA];have h8:=in7 (lo:=los) (hd:=(hd:Int)) (In:=In) (x:=(f:Int)) (m278:=d') t.nb g hy hlo (λ(m230:Fnd)(m231:Mi)(m232:Mi)(m233:Mb)(_:Mi)(_:Mi)=>f19s_l3 rec19 nat nb nc no ed los (hd:Int) In lw K m (i64.wrap (((n - 1 - f:Nat):Int) - 1)) m230 m231 m232 m233) (ai fo' (f:Int) ()) once thr dn' (Int.toNat (((y+1 - f:Nat):Int) - 0)+1) 0 arr (Nat.zero_le _) oM;refine h8.trans ?_;rw[if_pos oM,e0];exact hfin
  -- a block of its own
  have hedge:f≠hd->Option.getD (ac ed (f:Int)) []=[]:=λhne=>t.ed0 _ λy a hy e=>hinner ⟨hne,y,by rw[hy];congr 1;omega⟩;have hnot:f=hd\/∀y,h y≠some f:=by by_cases e:f=hd;exact .inl e;exact .inr λy hy=>hinner ⟨e,y,hy⟩
  have hb238:(bif (!decide ((f:Int)=(hd:Int))) then(Option.bind (f35 lw (f:Int)) λr239=>some r239) else some false)=some false:=by by_cases e:f=hd;rw[dcT oM];rfl;rw[dcF oM,Bool.not_false,cdT,jt hlwl,bnS,dcF λhm=>((hlw f hlt).1 hm).2.2 (hedge e)]
  have hc:=t.cost f;have hpt':=Pt.go iv.pt hkb hnot;have hA':=t.top _ _ _ _ htop hpt';have i9:∀(Q:Mi->Rt),f19s_l9 (hd:Int) In d (f:Int) (A+c f) Q ⟨0,0,Nx n h f⟩ (Int.toNat (((Nx n h f).length:Int) - 0)+1) 0 arr=Q (upd (hd:Int) In n f (A+c f) arr):=λQ=>by
   have hbk:∀z,h f=some z->gB In (z:Int)=true->(z:Int)=(hd:Int):=λz hz hi=>by
    have hzf:=g.back f z hz;have:=of_decide_eq_true ((hIn z oM).symm.trans hi);by_cases e:z=hd;omega;exfalso;rcases Nat.lt_or_ge z f with h8|h8
    have:=iv.ins f z hz e this.1 h8;omega;have:z=f:=oM;subst this;rcases hnot with h9|h9
    exact e h9;exact h9 z hz
   have last:∀(m t':Nat)(L:List Int),f+1<n->t'<1000->idx L (t':Int)=some ((f+1:Nat):Int)->L.length=t'+1->f19s_l9 (hd:Int) In d (f:Int) (A+c f) Q ⟨0,0,L⟩ (m+1+1) (t':Int) arr=Q (upd (hd:Int) In n f (A+c f) arr):=λm t' L hy1 ht hz hll=>by
    unfold upd;by_cases hcc:gB In ((f+1:Nat):Int)=true/\((f+1:Nat):Int)≠(hd:Int);rw[if_pos ⟨hy1,hcc⟩,sJ (b:=⟨0,0,L⟩) hz ht hcc.1 hcc.2,<-hll];exact kU (b:=⟨0,0,L⟩);rw[if_neg λh'=>hcc h'.2,ng (b:=⟨0,0,L⟩) hz ht (λh3=>by
     by_cases e:((f+1:Nat):Int)=(hd:Int);exact e;exact absurd ⟨h3,e⟩ hcc),<-hll]
    exact kU (b:=⟨0,0,L⟩)
   have hno:f+1=n->upd (hd:Int) In n f (A+c f) arr=arr:=λe=>by
    unfold upd;rw[if_neg λh'=>by omega]
   rcases fk g hlt with⟨_,h3,h4⟩|⟨_,h3,h4⟩|⟨z,hz,hh,h3,h4⟩|⟨z,hz,hh,h3,h4⟩
   rw[h4];exact last 0 0 _ h3 oM rfl rfl;rw[h4,hno h3];exact kU (b:=⟨0,0,[]⟩);rw[h4];refine(ng (b:=⟨0,0,[(z:Int),((f+1:Nat):Int)]⟩) (m:=2) (t:=0) rfl oM (hbk z hh)).trans ?_;exact last 0 1 _ h3 oM rfl rfl;rw[h4,hno h3];refine(ng (b:=⟨0,0,[(z:Int)]⟩) (m:=1) (t:=0) rfl oM (hbk z hh)).trans ?_;exact kU (b:=⟨0,0,[(z:Int)]⟩)
  have hupd:∀z:Int,gI (upd (hd:Int) In n f (A+c f) arr) z=if f+1<=b/\z=((f+1:Nat):Int) then A+c f else gI arr z:=λz=>by
   unfold upd;by_cases hy1:f+1<=b;rw[if_pos ⟨oM,(hIn (f+1) oM).trans (dcT ⟨oM,hy1⟩),by have:=hnx f hlk hy1;omega⟩,hP,har.2 (f+1) oM hy1];by_cases e:((f+1:Nat):Int)=z;rw[if_pos e,if_pos (c:=_/\z=_) ⟨hy1,e.symm⟩];split<;>omega;rw[if_neg e,if_neg (c:=_/\z=_) λh'=>e h'.2.symm];rw[if_neg (c:=_/\z=_) λh'=>hy1 h'.1];by_cases hc:f+1<n/\gB In ((f+1:Nat):Int)=true/\((f+1:Nat):Int)≠(hd:Int);have:=(hIn (f+1) hc.1).symm.trans hc.2.1;have:=of_decide_eq_true this;omega;rw[if_neg hc]
  obtain⟨A',fo2,arr2,d2,dn2,g1,g2⟩:=ih (f+1) (A+c f) fo (upd (hd:Int) In n f (A+c f) arr) (ai d (f:Int) (A+c f)) (ai dn (f:Int) true) {
   pt:=hpt'
   lf:=⟨oM,oM⟩
   kf:= .inl oM
   ar:=λhyb1=>⟨by rw[hupd,if_pos ⟨hyb1,rfl⟩],λw h8 h9=>by rw[hupd,if_neg oM,har.2 w oM h9]⟩
   dn:=λw hw=>by
    rw[nl,iv.dn w hw];by_cases e:(f:Int)=(w:Int);rw[dcT e,Bool.true_or,dcT];omega;rw[dcF e,Bool.false_or];exact decide_eq_decide.2 oM
   nd:=j0 _ _ _ iv.nd
   dv:=λz v hz=>by
    rw[aF] at hz;split at hz;cases hz;omega;have:=iv.dv z v hz;omega
   dl:=λ_=>by
    rw[show f+1 - 1=f by omega,aF,if_pos rfl]
   fo1:=λw h8 h9 h10=>iv.fo1 w oM h9 h10
   fo2:=iv.fo2
   ins:=λw z hw hz hlz hzf=>by
    rcases Nat.lt_or_ge z f with h8|h8
    have:=iv.ins w z hw hz hlz h8;omega;have:z=f:=oM;subst this;exact absurd ⟨hz,w,hw⟩ hinner }
  refine⟨A',fo2,arr2,d2,dn2,λr hK=>?_,g2⟩;have hfin:=g1 r hK;rw[f19s_l3,dcT oM,cdT,t.no f hlt,bnS,af,af,hInk,hdnk,Bool.not_true,Bool.false_or,cdF,hb238,bnS,cdF,t.nc f hlt,bnS,show Option.getD (ac arr (f:Int)) 0=A from har.1,kw ⟨hA.1,hA.2⟩ ⟨hc.1,oM⟩,bnS,af,t.nb f hlt,bnS];refine(i9 _).trans ?_;rw[fc,e0];exact hfin
  -- nothing to do
  obtain⟨A',fo2,arr2,d2,dn2,g1,g2⟩:=ih f A fo arr d dn { iv with kf:=by have:=iv.lf;rcases iv.kf with h1|h1<;>omega };refine⟨A',fo2,arr2,d2,dn2,λr hK=>?_,g2⟩;have hfin:=g1 r hK;have hb:(!(Option.getD (ac In (k:Int)) false)||Option.getD (ac dn (k:Int)) false)=true:=by rw[show Option.getD (ac In (k:Int)) false=_ from hIn k hlt,show Option.getD (ac dn (k:Int)) false=_ from iv.dn k hlt];by_cases h1:lo<=k/\k<=b;rw[dcT h1,dcT (show lo<=k/\k<f by omega)];rfl;rw[dcF h1];rfl
  rw[f19s_l3,dcT oM,cdT,t.no k hlt,bnS,af,af,hb,cdT,e0];exact hfin;have:k=n:=oM;subst this;have hf:f=b+1:=by have:=iv.lf;rcases iv.kf with h1|h1<;>omega
  subst hf;refine⟨A,fo,arr,d,dn,λr hK=>?_,iv⟩;rw[f19s_l3,dcF oM,cdF];exact hK
section
variable{n:Nat}{h:Nat->Option Nat}{c bd:Nat->Int}{nat:List Int}{nb:List aj}{nc no:List Int}{ed:Eds}{los:Los}
theorem kE(t:NT n h c bd nb nc no ed los){y:Nat}(hy:y<n):(y:Int)∈no:=List.mem_of_getElem? (dp (t.no y hy))
theorem f19_pre(g:CG n h)(t:NT n h c bd nb nc no ed los)(rec19:(List Int)->(List aj)->(List Int)->(List Int)->Eds->Los->Fnd->Int->(List Int)->Option (Fnd×Mi))(fo0:Fnd)(hd:Int)(B:List Int)(hB:B.length<=1000):∃In lw,(∀z,gB In z=decide (z∈B))/\lw.length<=2000/\(∀z,z∈lw↔z∈no/\gB In z=true/\z≠hd/\Option.getD (ac ed z) []≠[])/\f19s rec19 nat nb nc no ed los fo0 hd B=f19s_l3 rec19 nat nb nc no ed los hd In lw (λa _ c _=>some (a,c)) (no.length+1) ((no.length:Int) - 1) fo0 (ai [] hd 0) [] []:=by
 have hle:=g.le;have hnl:no.length<=1000:=by rcases t.nol with h1|h1<;>omega
 have hw:i64.wrap ((List.length no:Int) - 1)=(no.length:Int) - 1:=w64 oM oM;unfold f19s;rw[af];obtain⟨In,h1,h2⟩:=in1 B oM (λ(m163:Mb)=>al (λ(lw172:List Int)=>
  al (λ(m196:Fnd)(m197:Mi)(m198:Mi)(m199:Mb)=>
  some (m196,m198)) λk200=>
  al (λ(_:Unit)=>
  al (λ(m204:Fnd)(m205:Mi)(m206:Mi)(m207:Mb)=>
  (k200 m204 m205 m206 m207)) λk208=>
  (f19s_l3 rec19 nat nb nc no ed los hd m163 lw172 k208 (Int.toNat ((i64.wrap ((List.length no:Int) - 1))+1)+1) (i64.wrap ((List.length no:Int) - 1)) fo0 (ai ([]:List (Int×Int)) hd 0) ([]:List (Int×Int)) ([]:List (Int×Bool)))) λk202=>
  (k202 ())) λk174=>
  al (λ(_:Unit)=>
  al (λ(lw178:List Int)=>
  (k174 lw178)) λk180=>
  (f19s_l2 no ed hd m163 k180 (Int.toNat ((i64.wrap ((List.length no:Int) - 1))+1)+1) (i64.wrap ((List.length no:Int) - 1)) [])) λk176=>
  (k176 ())) (Int.toNat ((B.length:Int) - 0)+1) 0 [] (Nat.zero_le _) oM
 rw[show((0:Nat):Int)=0 from rfl] at h1;rw[h1,af,af];show∃In' lw,_/\_/\_/\f19s_l2 no ed hd In _ (Int.toNat ((i64.wrap ((List.length no:Int) - 1))+1)+1) (i64.wrap ((List.length no:Int) - 1)) []=_;rw[hw,show Int.toNat ((no.length:Int) - 1+1)+1=no.length+1 by omega];obtain⟨lw,h3,h4,h5⟩:=in2 hnl ed hd In (λ(lw172:List Int)=>f19s_l3 rec19 nat nb nc no ed los hd In lw172 (λa _ c _=>some (a,c)) (no.length+1) ((no.length:Int) - 1) fo0 (ai [] hd 0) [] []) (no.length+1) no.length [] (Nat.le_refl _) oM sM;refine⟨In,lw,λz=>?_,h4,λz=>?_,?_⟩;rw[h2,List.drop_zero];simp[gB,ac];rw[h5,List.take_length];simp;refine Eq.trans ?_ h3;rfl
theorem f19_seg(g:CG n h)(t:NT n h c bd nb nc no ed los):∀(F a b:Nat)(fo0:Fnd),h b=some a->b - a<F->(∀w:Nat,a<w->w<=b->ac fo0 (w:Int)=none)->∃fo' once S,f19 F nat nb nc no ed los fo0 (a:Int) (seg a b)=some (fo',once)/\OkR n h c bd a b fo0 fo' once S
 |0,a,b,fo0,hb,hF,_=>oM
 |F+1,a,b,fo0,hb,hF,hfo=>by
  have hle:=g.le;have hba:=g.back b a hb;obtain⟨In,lw,h1,h2,h3,h4⟩:=f19_pre (nat:=nat) g t (f19 F) fo0 (a:Int) (seg a b) (by rw[fA];omega);have hIn:∀y:Nat,gB In (y:Int)=decide (a<=y/\y<=b):=λy=>by
   rw[h1];refine decide_eq_decide.2 ?_;rw[fy];exact⟨λ⟨u,h8,h9,h10⟩=>oM,λh8=>⟨y,rfl,h8.1,h8.2⟩⟩
  obtain⟨A',fo',arr',d',dn',g1,g2⟩:=qx (fo0:=fo0) (nat:=nat) g t (hd:=a) (lo:=a) (b:=b) (In:=In) (lw:=lw) (.inl hb) hba.2 (λy _=>hIn y) oM (λy hy=>by rw[h3];exact⟨λh'=>h'.2,λh'=>⟨kE t hy,h'⟩⟩) (λy h5 h6=>oM) (λy z h5 h6 h7 h8=>g.nest b a y z hb h5 oM h8) (rec19:=f19 F) (λf y fo1 h5 h6 h7 h8 h9=>f19_seg g t F f y fo1 h5 (by have:=g.back y f h5;omega) h9) (λa _ c _=>some (a,c)) (n+1) 0 a 0 fo0 (ai [] (a:Int) 0) [] [] (Nat.zero_le _) oM {
    pt:= .st hba.1
    lf:=⟨Nat.le_refl _,oM⟩
    kf:= .inl (Nat.zero_le _)
    ar:=λ_=>⟨by rw[hP,if_pos rfl],λy h5 _=>by rw[hP,if_neg oM];rfl⟩
    dn:=λy _=>by rw[dcF oM];rfl
    nd:=by simp[kys]
    dv:=λz v hz=>by cases hz
    dl:=λh5=>oM
    fo1:=λy h5 h6 h7=>hfo y oM h6
    fo2:=λz hz=> .inl hz
    ins:=λy z _ _ h5 h6=>by omega }
  refine⟨fo',d',A',?_,g2.pt,g2.nd,g2.dv,?_,λz hz=>?_⟩;rw[show f19 (F+1)=f19s (f19 F) from rfl,h4];have hfin:=g1 _ rfl;rcases t.nol with h5|⟨h5,h6⟩
  rw[h5,show(n:Int) - 1=(n:Int) - 1 - ((0:Nat):Int) by omega];exact hfin;have hinn:Option.getD (ac In (n:Int)) false=false:=(hIn n).trans (dcF oM);rw[h5,show((n+1:Nat):Int) - 1=(n:Int) by omega,f19s_l3,dcT oM,cdT,h6,bnS,af,af,hinn,Bool.not_false,Bool.true_or,cdT,w64 oM oM,show(n:Int) - 1=(n:Int) - 1 - ((0:Nat):Int) by omega];exact hfin;have:=g2.dl oM;rwa [show b+1 - 1=b by omega] at this;rcases g2.fo2 z hz with h5|⟨y,h5,h6,h7,h8⟩
  exact .inl h5;exact .inr ⟨y,h5,oM,h7⟩
theorem f19_all(g:CG n h)(t:NT n h c bd nb nc no ed los)(hn:no=dsc n 0)(h0:∀y,h y≠some 0):∃fo' d A,f19 100 nat nb nc no ed los [] 0 no=some (fo',d)/\Pt n h c bd 0 (n - 1) n A/\(kys d).Nodup/\(∀z v,ac d z=some v->0<=v/\v<=A)/\∃z,ac d z=some A:=by
 have hle:=g.le;have hpos:=g.pos;have hnl:no.length=n:=by rw[hn,bX];rfl
 obtain⟨In,lw,h1,h2,h3,h4⟩:=f19_pre (nat:=nat) g t (f19 99) [] (0:Int) no oM;have hIn:∀y:Nat,y<n->gB In (y:Int)=decide (0<=y/\y<=n - 1):=λy hy=>by
  rw[h1,dcT (kE t hy),dcT oM]
 obtain⟨A',fo',arr',d',dn',g1,g2⟩:=qx (fo0:=[]) (nat:=nat) g t (hd:=0) (lo:=0) (b:=n - 1) (In:=In) (lw:=lw) (.inr ⟨.inr ⟨rfl,h0⟩,oM⟩) oM hIn oM (λy hy=>by rw[h3];exact⟨λh'=>h'.2,λh'=>⟨kE t hy,h'⟩⟩) (λy h5 h6=>oM) (λy z h5 h6 h7 h8=>by have:=g.back y z h5;omega) (rec19:=f19 99) (λf y fo1 h5 h6 h7 h8 h9=>f19_seg g t 99 f y fo1 h5 (by have:=g.back y f h5;omega) h9) (λa _ c _=>some (a,c)) (n+1) 0 0 0 [] (ai [] 0 0) [] [] (Nat.zero_le _) oM {
   pt:= .st (Nat.zero_le _)
   lf:=⟨Nat.le_refl _,oM⟩
   kf:= .inl (Nat.zero_le _)
   ar:=λ_=>⟨rfl,λy h5 _=>by rw[hP,if_neg oM];rfl⟩
   dn:=λy _=>by rw[dcF oM];rfl
   nd:=by simp[kys]
   dv:=λz v hz=>by cases hz
   dl:=λh5=>oM
   fo1:=λy h5 h6 h7=>rfl
   fo2:=λz hz=> .inl hz
   ins:=λy z _ _ h5 h6=>by omega }
 rw[show n - 1+1=n by omega] at g2;refine⟨fo',d',A',?_,g2.pt,g2.nd,g2.dv,?_⟩;rw[show f19 100=f19s (f19 99) from rfl,h4,hnl,show(n:Int) - 1=(n:Int) - 1 - ((0:Nat):Int) by omega];exact g1 _ rfl;exact⟨_,g2.dl hpos⟩
theorem f19_front(g:CG n h)(t:NT n h c bd nb nc no ed los)(hn:no=dsc n 0++ [(n:Int)])(hb:idx nb (n:Int)=some ⟨0,0,[0]⟩)(hc:idx nc (n:Int)=some 0):∃fo' d A,f19 100 nat nb nc no ed los [] (n:Int) no=some (fo',d)/\Pt n h c bd n (n - 1) n A/\(kys d).Nodup/\(∀z v,ac d z=some v->0<=v/\v<=A)/\∃z,ac d z=some A:=by
 have hle:=g.le;have hpos:=g.pos;have hnl:no.length=n+1:=by rw[hn,List.length_append,bX];rfl
 have hnn:idx no (n:Int)=some (n:Int):=by rcases t.nol with h5|h5;omega;exact h5.2
 obtain⟨In,lw,h1,h2,h3,h4⟩:=f19_pre (nat:=nat) g t (f19 99) [] (n:Int) no oM;have hIn:∀y:Nat,y<n->gB In (y:Int)=decide (0<=y/\y<=n - 1):=λy hy=>by
  rw[h1,dcT (kE t hy),dcT oM]
 have hInn:Option.getD (ac In (n:Int)) false=true:=(h1 n).trans (dcT (by rw[hn];simp));have harr:∀z:Int,gI (ai (ai [] (n:Int) 0) 0 (if(0:Int)>gI (ai [] (n:Int) 0) 0 then 0 else gI (ai [] (n:Int) 0) 0)) z=0:=λz=>by
  have e:∀w,gI (ai [] (n:Int) 0) w=0:=λw=>by rw[hP];split<;>rfl
  rw[hP,e,e];split<;>simp
 obtain⟨A',fo',arr',d',dn',g1,g2⟩:=qx (fo0:=[]) (nat:=nat) g t (hd:=n) (lo:=0) (b:=n - 1) (In:=In) (lw:=lw) (.inr ⟨.inl rfl,oM⟩) oM hIn oM (λy hy=>by rw[h3];exact⟨λh'=>h'.2,λh'=>⟨kE t hy,h'⟩⟩) (λy h5 h6=>oM) (λy z h5 h6 h7 h8=>by have:=g.back y z h5;omega) (rec19:=f19 99) (λf y fo1 h5 h6 h7 h8 h9=>f19_seg g t 99 f y fo1 h5 (by have:=g.back y f h5;omega) h9) (λa _ c _=>some (a,c)) (n+1) 0 0 0 [] (ai (ai [] (n:Int) 0) 0 (if(0:Int)>gI (ai [] (n:Int) 0) 0 then 0 else gI (ai [] (n:Int) 0) 0)) (ai [] (n:Int) 0) (ai [] (n:Int) true) (Nat.zero_le _) oM {
   pt:= .fr _
   lf:=⟨Nat.le_refl _,oM⟩
   kf:= .inl (Nat.zero_le _)
   ar:=λ_=>⟨harr _,λy h5 _=>harr _⟩
   dn:=λy _=>by rw[nl,dcF oM,dcF oM];rfl
   nd:=by simp[kys,ai]
   dv:=λz v hz=>by
    rw[aF] at hz;split at hz;cases hz;omega;cases hz
   dl:=λh5=>oM
   fo1:=λy h5 h6 h7=>rfl
   fo2:=λz hz=> .inl hz
   ins:=λy z _ _ h5 h6=>by omega }
 rw[show n - 1+1=n by omega] at g2;refine⟨fo',d',A',?_,g2.pt,g2.nd,g2.dv,?_⟩;have hfin:=g1 _ rfl;rw[show f19 100=f19s (f19 99) from rfl,h4,hnl,show((n+1:Nat):Int) - 1=(n:Int) by omega,f19s_l3,dcT oM,cdT,hnn,bnS,af,af,hInn];show(bif false then _ else Option.bind (bif !decide ((n:Int)=(n:Int)) then _ else some false) _)=_;rw[cdF,dcT rfl,Bool.not_true,cdF,bnS,cdF,hc,bnS,show Option.getD (ac (ai [] (n:Int) (0:Int)) (n:Int)) 0=0 by rw[aF,if_pos rfl];rfl,kw oM oM,bnS,af,hb,bnS];show f19s_l9 (n:Int) In [] (n:Int) (0+0) _ ⟨0,0,[0]⟩ 2 ((0:Nat):Int) _=_;rw[sJ (b:=⟨0,0,[0]⟩) (z:=0) rfl oM ((hIn 0 hpos).trans (dcT oM)) oM];refine(kU (b:=⟨0,0,[0]⟩) (m:=0)).trans ?_;rw[fc,w64 oM oM,show(n:Int) - 1=(n:Int) - 1 - ((0:Nat):Int) by omega];exact hfin;exact⟨_,g2.dl hpos⟩
end
noncomputable def f6r(t0:bD)(c1:Nat->Int)(lw138:List Int)(lw142:List aj):Option (Int×Int):=
 al (λ(lw218:List Int)=>
 Option.bind (f15 lw142) λr235=>
 (bif (!r235) then some (0,250) else al (λ(t238:Int)(m239:List (Int×(List aT)))(m240:List (Int×(List Int)))(m241:List ((Int×Int)×Int))=>
 (bif (!decide (t238=0)) then some (0,t238) else al (λ(lw288:List Bool)(lw290:List Int)=>
 (bif (decide ((List.length (Option.getD (ac m239 0) []):Int)>0)) then al (λ(m297:List (Int×Unit))(m298:List (Int×Int))(c45v299:List Int)=>
 al (λ(worst308:Int)=>
 (bif (decide (worst308>9007199254740992)) then some (0,3) else some (worst308,0))) λk310=>
 (cA m298 f6_m8 (λ(zw324:Int)=>(k310 zw324)) 0)) λk300=>
 au (aO 40 lw142 [(aj.mk 0 0 [0])])<|
 au (aO 8 lw218 [0])<|
 Option.bind (f42o lw290) λr303=>
 au (aO 8 r303 [(List.length lw142:Int)])<|
 Option.bind (f19 100 lw138 (lw142++ [(aj.mk 0 0 [0])]) (lw218++ [0]) (r303++ [(List.length lw142:Int)]) m239 m240 ([]:List (Int×Unit)) (List.length lw142:Int) (r303++ [(List.length lw142:Int)])) λr306=>
 (k300 r306.1 r306.2 (r303++ [(List.length lw142:Int)])) else Option.bind (f19 100 lw138 lw142 lw218 lw290 m239 m240 ([]:List (Int×Unit)) 0 lw290) λr325=>
 al (λ(worst327:Int)=>
 (bif (decide (worst327>9007199254740992)) then some (0,3) else some (worst327,0))) λk329=>
 (cA r325.2 f6_m9 (λ(zw343:Int)=>(k329 zw343)) 0))) λk292=>
 au (kM 1 (List.length lw142:Int))<|
 Option.bind (f40 100 (List.replicate (Int.toNat (List.length lw142:Int)) (false:Bool)) lw138 lw142 lw218 m239 m240 ([]:List Int) ([]:List (Int×Unit)) 0) λr294=>
 (k292 r294.1 r294.2))) λk242=>
 al (λ(m243:List ((Int×Int)×Int))=>
 al (λ(ew252:Int)(m253:List (Int×(List aT)))=>
 al (λ(m268:List (Int×(List Int)))=>
 (k242 ew252 m253 m268 m243)) λk270=>
 (cA m253 (f6_m7 lw142) (λ(zw286:(List (Int×(List Int))))=>(k270 zw286)) ([]:List (Int×(List Int))))) λk254=>
 Option.bind (f37w lw142) λr255=>
 (f6_l6 lw138 m243 k254 r255 (Int.toNat ((List.length r255:Int) - 0)+1) 0 ([]:List (Int×(List aT))))) λk244=>
 (f6_l5 t0 k244 (Int.toNat ((List.length t0.loops:Int) - 0)+1) 0 ([]:List ((Int×Int)×Int))))) λk220=>
 (f6_l4 t0 c1 lw138 k220 (Int.toNat ((List.length lw138:Int) - 0)+1) 0 [])
theorem f6_stops{t0:bD}{stops:List Int}(k129:Int->Option (Int×Int))(k130:Unit->Option (Int×Int))(hl:stops.length<=1000)(hs:∀x∈stops,0<=x/\x<(t0.insns.length:Int)):∀(m i:Nat),i<=stops.length->stops.length<m+i->f6_l1 t0 stops k129 k130 m (i:Int)=k130 ()
 |0,i,_,h=>oM
 |m+1,i,hi,hm=>by
  rw[f6_l1];by_cases hlt:i<stops.length;have:=hs _ (List.getElem_mem hlt);rw[ltb hlt,cdT,aZ hlt,bnS,af,dcF oM,dcF oM,Bool.or_self,cdF,w1n oM];exact f6_stops k129 k130 hl hs m (i+1) oM oM;rw[ltf hlt,cdF]
theorem f6_open{t0:bD}{c1:Nat->Int}{from2:Int}{stops:List Int}{W:List (Int×List Int)}(h11:f11 t0=some true)(h12:f12 c1=some true)(hf:0<=from2/\from2<(t0.insns.length:Int))(hl:stops.length<=1000)(hs:∀x∈stops,0<=x/\x<(t0.insns.length:Int))(hW:f34 t0 from2=some W){B:Nat}(hB:B=9223372036854775808):f6 t0 c1 from2 stops=f6_l2 stops W (λa _ b=>f6r t0 c1 a b) B 0 [from2] (ai [] from2 0) []:=by unfold f6;rw[h11,bnS,Bool.not_true,cdF,h12,bnS,Bool.not_true,bnS,cdF,af,dcF oM,dcF oM,Bool.or_self,cdF,af,af,af,show(0:Int)=((0:Nat):Int) from rfl,f6_stops _ _ hl hs _ 0 (Nat.zero_le _) oM];show(bif decide ((-1:Int)>=((0:Nat):Int)) then _ else _)=_;rw[dcF oM,cdF,af,hW,bnS,af,<-hB];rfl
section
variable{W:List (Int×List Int)}{x:Int}{K:List Int->List (Int×Int)->List Int->Option (Int×Int)}{L:List Int}
theorem nv{m t:Nat}{lw lx:List Int}{mm:List (Int×Int)}{z:Int}(hL:Option.getD (ac W x) []=L)(hz:idx L (t:Int)=some z)(ht:t<1000)(hm:ac mm z=some z)(hx:lx.length<=1000):f6_l3 W x K (m+1) (t:Int) lw mm lx=f6_l3 W x K m ((t+1:Nat):Int) lw mm (lx++ [z]):=by have h1:=cQ hz;rw[f6_l3,hL,dcT oM,cdT,hz,bnS,af,hm,Option.isSome_some,Bool.not_true,cdF,w1n oM];show au (aO 8 lx [Option.getD (ac mm z) 0]) (f6_l3 W x K m ((t+1:Nat):Int) lw mm (lx++ [Option.getD (ac mm z) 0]))=_;rw[hm,aq _ (dM (by simp;omega))];rfl
theorem pb{m t:Nat}{lw lx:List Int}{mm:List (Int×Int)}{z:Int}(hL:Option.getD (ac W x) []=L)(hz:idx L (t:Int)=some z)(ht:t<1000)(hm:ac mm z=none)(hw:(lw.length:Int)=z)(hw2:lw.length<=1000)(hx:lx.length<=1000):f6_l3 W x K (m+1) (t:Int) lw mm lx=f6_l3 W x K m ((t+1:Nat):Int) (lw++ [z]) (ai mm z z) (lx++ [z]):=by have h1:=cQ hz;rw[f6_l3,hL,dcT oM,cdT,hz,bnS,af,hm,Option.isSome_none,Bool.not_false,cdT,aq _ (dM (by simp;omega)),w1n oM,hw];show au (aO 8 lx [Option.getD (ac (ai mm z z) z) 0]) (f6_l3 W x K m ((t+1:Nat):Int) (lw++ [z]) (ai mm z z) (lx++ [Option.getD (ac (ai mm z z) z) 0]))=_;rw[aF,if_pos rfl,aq _ (dM (by simp;omega))];rfl
theorem jO{m:Nat}{lw lx:List Int}{mm:List (Int×Int)}(hL:Option.getD (ac W x) []=L):f6_l3 W x K (m+1) (L.length:Int) lw mm lx=K lw mm lx:=by rw[f6_l3,hL,dcF oM,cdF]
end
def ad(n:Nat):List Int:=mR n λi=>(i:Int)
theorem uA(n:Nat):ad (n+1)=ad n++ [(n:Int)]:=by unfold ad mR;rw[List.range_succ];simp
theorem uv(n:Nat)(h:Nat->Option Nat)(i:Nat):(mR (i+1) λj=>(⟨0,0,Nx n h j⟩:aj))=(mR i λj=>⟨0,0,Nx n h j⟩)++ [⟨0,0,Nx n h i⟩]:=by unfold mR;rw[List.range_succ];simp
theorem grp{n:Nat}{h:Nat->Option Nat}(g:CG n h){stops:List Int}(hsl:stops.length<=1000){W:List (Int×List Int)}(hW:∀i:Nat,i<n->(if(i:Int)∈stops then[] else Option.getD (ac W (i:Int)) [])=Nx n h i)(K:List Int->List (Int×Int)->List aj->Option (Int×Int)):∀(m i:Nat)(mm:List (Int×Int)),i<=n->n<m+i->(∀z:Nat,ac mm (z:Int)=if z<min n (i+1) then some (z:Int) else none)->∃m',f6_l2 stops W K m (i:Int) (ad (min n (i+1))) mm (mR i λj=>⟨0,0,Nx n h j⟩)=K (ad n) m' (Bk n h)
 |0,i,_,_,h,_=>oM
 |m+1,i,mm,hi,hm,hmm=>by
  have hle:=g.le;rw[f6_l2,show(ad (min n (i+1))).length=min n (i+1) from cP _ _];by_cases hlt:i<n;rw[dcT oM,cdT,af,show idx (ad (min n (i+1))) (i:Int)=some (i:Int) from bE oM,bnS,af,jt oM,bnS];have hWi:=hW i hlt;have fin:∀lw mm',lw=ad (min n (i+1+1))->(∀z:Nat,ac mm' (z:Int)=if z<min n (i+1+1) then some (z:Int) else none)->∃m',(au (aO 40 (mR i λj=>(⟨0,0,Nx n h j⟩:aj)) [⟨0,0,Nx n h i⟩])<|f6_l2 stops W K m (i64.wrap ((i:Int)+1)) lw mm' ((mR i λj=>⟨0,0,Nx n h j⟩)++ [⟨0,0,Nx n h i⟩]))=K (ad n) m' (Bk n h):=λlw mm' h1 h2=>by
   subst h1;rw[aq _ (eQ dC (by rw[cP];simp;omega)),<-uv,w1n oM];exact grp g hsl hW K m (i+1) mm' oM oM h2
  have hnew:∀z:Nat,i+1<n->ac (ai mm ((i+1:Nat):Int) ((i+1:Nat):Int)) (z:Int)=if z<min n (i+1+1) then some (z:Int) else none:=λz h1=>by
   rw[aF,hmm];by_cases e:z=i+1;subst e;rw[if_pos rfl,if_pos oM];rw[if_neg oM];by_cases h2:z<min n (i+1);rw[if_pos h2,if_pos oM];rw[if_neg h2,if_neg oM]
  have hadd:i+1<n->ad (min n (i+1))++ [((i+1:Nat):Int)]=ad (min n (i+1+1)):=λh1=>by
   rw[show min n (i+1)=i+1 by omega,show min n (i+1+1)=i+1+1 by omega,uA (i+1)]
  have hlen:(ad (min n (i+1))).length=min n (i+1):=cP _ _;by_cases hs:(i:Int)∈stops;rw[dcT hs,Bool.not_true,cdF];rw[if_pos hs] at hWi;show∃m',(au (aO 40 (mR i λj=>(⟨0,0,Nx n h j⟩:aj)) [⟨0,0,[]⟩])<|f6_l2 stops W K m (i64.wrap ((i:Int)+1)) (ad (min n (i+1))) mm ((mR i λj=>⟨0,0,Nx n h j⟩)++ [⟨0,0,[]⟩]))=_;rw[hWi];have hin:i+1=n:=by
   rcases fk g hlt with⟨_,h3,h4⟩|⟨_,h3,_⟩|⟨z,_,_,h3,h4⟩|⟨z,_,_,h3,h4⟩
   rw[h4] at hWi;cases hWi;exact h3;rw[h4] at hWi;cases hWi;rw[h4] at hWi;cases hWi
  exact fin _ _ (by congr 1;omega) (λz=>by rw[hmm];congr 1;exact propext oM);rw[dcF hs,Bool.not_false,cdT];rw[if_neg hs] at hWi;have hknown:∀z:Nat,z<=i->ac mm (z:Int)=some (z:Int):=λz hz=>by rw[hmm,if_pos oM]
  rcases fk g hlt with⟨_,h3,h4⟩|⟨_,h3,h4⟩|⟨z,hz,_,h3,h4⟩|⟨z,hz,_,h3,h4⟩
  obtain⟨m',e⟩:=fin _ _ (hadd h3) (λz=>hnew z h3);refine⟨m',Eq.trans ?_ e⟩;rw[hWi,h4];refine(pb (L:=[((i+1:Nat):Int)]) (t:=0) (m:=1) (hWi.trans h4) rfl oM (by rw[hmm,if_neg oM]) (by rw[hlen];omega) oM sM).trans ?_;exact jO (L:=[((i+1:Nat):Int)]) (hWi.trans h4);obtain⟨m',e⟩:=fin (ad (min n (i+1))) mm (by congr 1;omega) (λz=>by rw[hmm];congr 1;exact propext oM);refine⟨m',Eq.trans ?_ e⟩;rw[hWi,h4];exact jO (L:=[]) (hWi.trans h4);obtain⟨m',e⟩:=fin _ _ (hadd h3) (λz=>hnew z h3);refine⟨m',Eq.trans ?_ e⟩;rw[hWi,h4];refine(nv (L:=[(z:Int),((i+1:Nat):Int)]) (t:=0) (m:=2) (hWi.trans h4) rfl oM (hknown z hz) sM).trans ?_;refine(pb (L:=[(z:Int),((i+1:Nat):Int)]) (t:=1) (m:=1) (hWi.trans h4) rfl oM (by rw[hmm,if_neg oM]) (by rw[hlen];omega) oM sM).trans ?_;exact jO (L:=[(z:Int),((i+1:Nat):Int)]) (hWi.trans h4);obtain⟨m',e⟩:=fin (ad (min n (i+1))) mm (by congr 1;omega) (λz=>by rw[hmm];congr 1;exact propext oM);refine⟨m',Eq.trans ?_ e⟩;rw[hWi,h4];refine(nv (L:=[(z:Int)]) (t:=0) (m:=1) (hWi.trans h4) rfl oM (hknown z hz) sM).trans ?_;exact jO (L:=[(z:Int)]) (hWi.trans h4);rw[dcF oM,cdF,show i=n by omega,show min n (n+1)=n by omega];exact⟨mm,rfl⟩
theorem q4{n:Nat}(hn:n<=90){t:bD}{c:Nat->Int}{cst:Nat->Int}(hi:∀i:Nat,i<n->∃x,idx t.insns (i:Int)=some x/\0<=x.op/\x.op<58/\c x.op.toNat=cst i)(K:List Int->Option (Int×Int)):∀(m i:Nat),i<=n->n<m+i->f6_l4 t c (ad n) K m (i:Int) (mR i cst)=K (mR n cst)
 |0,i,_,h=>oM
 |m+1,i,hin,hm=>by
  rw[f6_l4,show(ad n).length=n from cP _ _];by_cases hlt:i<n;obtain⟨x,h1,h2,h3,h4⟩:=hi i hlt;rw[ltb hlt,cdT,show idx (ad n) (i:Int)=some (i:Int) from bE hlt,bnS,h1,bnS,aq _ (by unfold jE;simp;omega),aq _ (dM (by rw[cP];simp;omega)),h4,w1n oM];rw[show mR i cst++ [cst i]=mR (i+1) cst by unfold mR;rw[List.range_succ];simp];exact q4 hn hi K m (i+1) oM oM;rw[ltf hlt,cdF,show i=n by omega]
theorem q5{t:bD}(hl:t.loops.length<=1000){bd:Nat->Int}(hb:∀l∈t.loops,∀a:Nat,l.head=(a:Int)->l.bound=bd a)(K:List ((Int×Int)×Int)->Option (Int×Int)):∀(m i:Nat)(mm:List ((Int×Int)×Int)),i<=t.loops.length->t.loops.length<m+i->∃m',f6_l5 t K m (i:Int) mm=K m'/\∀y a:Nat,(ac mm ((y:Int),(a:Int))=some (bd a)\/∃l∈t.loops.drop i,l.back=(y:Int)/\l.head=(a:Int))->ac m' ((y:Int),(a:Int))=some (bd a)
 |0,i,_,_,h=>oM
 |m+1,i,mm,hi,hm=>by
  rw[f6_l5];by_cases hlt:i<t.loops.length;obtain⟨m',h1,h2⟩:=q5 hl hb K m (i+1) (ai mm (t.loops[i].back,t.loops[i].head) t.loops[i].bound) oM oM;rw[ltb hlt,cdT,aZ hlt,bnS,w1n oM,h1];refine⟨m',rfl,λy a h3=>h2 y a ?_⟩;rw[aF];by_cases e:(t.loops[i].back,t.loops[i].head)=((y:Int),(a:Int));rw[if_pos e,hb _ (List.getElem_mem hlt) a (congrArg Prod.snd e)];exact .inl rfl;rw[if_neg e];rcases h3 with h3|⟨l,h4,h5,h6⟩
  exact .inl h3;rw[List.drop_eq_getElem_cons hlt] at h4;rcases List.mem_cons.1 h4 with rfl|h4
  exact absurd (by rw[h5,h6]) e;exact .inr ⟨l,h4,h5,h6⟩;rw[ltf hlt,cdF];refine⟨mm,rfl,λy a h3=>?_⟩;rw[List.drop_eq_nil_of_le oM] at h3;rcases h3 with h3|⟨l,h4,_⟩
  exact h3;cases h4
theorem q5c{t:bD}(hl:t.loops.length<=1000){bd:Nat->Int}(hb:∀l∈t.loops,∀a:Nat,l.head=(a:Int)->l.bound=bd a)(K:List ((Int×Int)×Int)->Option (Int×Int)){R:Option (Int×Int)}(hK:∀m',(∀y a:Nat,(∃l∈t.loops,l.back=(y:Int)/\l.head=(a:Int))->ac m' ((y:Int),(a:Int))=some (bd a))->K m'=R):f6_l5 t K (Int.toNat ((t.loops.length:Int) - 0)+1) 0 []=R:=by obtain⟨m',h1,h2⟩:=q5 hl hb K (Int.toNat ((t.loops.length:Int) - 0)+1) 0 [] (Nat.zero_le _) oM;exact h1.trans (hK m' λy a h3=>h2 y a (.inr (by rw[List.drop_zero];exact h3)))
theorem v8{L M:List aj}(h:L.length+M.length<=1000000):aO 40 L M=true:=eQ dC oM
theorem tD(h:Nat->Option Nat):∀k,((List.range k).flatMap (be h)).Pairwise (λp q=>p.e0<q.e0)/\∀p∈(List.range k).flatMap (be h),p.e0<(k:Int)
 |0=>sM
 |k+1=>by
  obtain⟨h1,h2⟩:=tD h k;have hb:∀p∈be h k,p.e0=(k:Int):=λp hp=>by
   unfold be at hp;obtain⟨z,_,rfl⟩:=List.mem_map.1 hp;rfl
  rw[List.range_succ,List.flatMap_append];simp only[List.flatMap_cons,List.flatMap_nil,List.append_nil];refine⟨List.pairwise_append.2 ⟨h1,?_,λp hp q hq=>by rw[hb q hq];exact h2 p hp⟩,λp hp=>?_⟩;unfold be;cases h k<;>simp;rcases List.mem_append.1 hp with hp|hp
  have:=h2 p hp;omega;rw[hb p hp];omega
structure EdI(bd:Nat->Int)(L:List Pr2)(mm:Eds):Prop where
 get:∀y a:Nat,(⟨(y:Int),(a:Int)⟩:Pr2)∈L->ac mm (a:Int)=some [⟨(y:Int),bd a⟩]
 key:∀z v,ac mm z=some v->∃y a:Nat,(⟨(y:Int),(a:Int)⟩:Pr2)∈L/\z=(a:Int)
 nd:(kys mm).Nodup
theorem q6{n:Nat}{h:Nat->Option Nat}(g:CG n h){bd:Nat->Int}{rows:List ((Int×Int)×Int)}(hr:∀y a:Nat,h y=some a->ac rows ((y:Int),(a:Int))=some (bd a))(K:Int->Eds->Option (Int×Int)):∀(m i:Nat)(mm:Eds),i<=(Bks n h).length->(Bks n h).length<m+i->EdI bd ((Bks n h).take i) mm->∃m',f6_l6 (ad n) rows K (Bks n h) m (i:Int) mm=K 0 m'/\EdI bd (Bks n h) m'
 |0,i,_,_,h,_=>oM
 |m+1,i,mm,hi,hm,hI=>by
  have hbl:=iV (h:=h) g.le;rw[f6_l6];by_cases hlt:i<(Bks n h).length;obtain⟨y,a,hy,hp⟩:=(eh g).1 (List.getElem_mem hlt);have hya:=g.back y a hy;have hnone:ac mm (a:Int)=none:=by
   cases hz:ac mm (a:Int) with
   |none=>rfl
   |some v=>
    obtain⟨y',a',h1,h2⟩:=hI.key _ _ hz;obtain⟨j,h3,h4⟩:=List.getElem_of_mem h1;rw[List.getElem_take] at h4;have h3':j<i:=by simp at h3;omega
    have hj:j<(Bks n h).length:=oM;obtain⟨y2,a2,hy2,hp2⟩:=(eh g).1 (List.getElem_mem hj);have:=List.pairwise_iff_getElem.1 (tD h n).1 j i hj hlt h3';have e0:(Bks n h)[j].e0=(y2:Int):=by rw[hp2]
    have e1:(Bks n h)[i].e0=(y:Int):=by rw[hp]
    have e2:(a2:Int)=(a':Int):=by have:=congrArg Pr2.e1 (hp2.symm.trans h4);exact this
    have e3:(y2:Int)<(y:Int):=by rw[<-e0,<-e1];exact this
    have ha2:a2=a:=oM;subst ha2;have:=g.one y2 y a2 hy2 hy;omega
  rw[ltb hlt,cdT,aZ hlt,bnS,hp,show idx (ad n) (y:Int)=some (y:Int) from bE hya.2,bnS,show idx (ad n) (a:Int)=some (a:Int) from bE oM,bnS,hr y a hy,Option.isSome_some,Bool.not_true,cdF,hnone,aq _ (show Option.isNone (none:Option (List aT))=true from rfl),aq _ (eQ dC sM),w1n oM];refine q6 g hr K m (i+1) _ oM oM ?_;have ht:(Bks n h).take (i+1)=(Bks n h).take i++ [⟨(y:Int),(a:Int)⟩]:=by rw[List.take_succ_eq_append_getElem hlt,hp]
  rw[ht];refine⟨λy' a' h1=>?_,λz v h1=>?_,j0 _ _ _ hI.nd⟩;show ac (ai mm (a:Int) [⟨(y:Int),bd a⟩]) (a':Int)=_;rw[aF];by_cases e:(a:Int)=(a':Int);have:a=a':=oM;subst this;rw[if_pos rfl];have hy':h y'=some a:=by
   rcases List.mem_append.1 h1 with h1|h1
   obtain⟨y2,a2,hy2,hp2⟩:=(eh g).1 (List.mem_of_mem_take h1);have e1:=congrArg Pr2.e0 hp2;have e2:=congrArg Pr2.e1 hp2;have e1':(y':Int)=(y2:Int):=e1;have e2':(a:Int)=(a2:Int):=e2;rw[show y'=y2 by omega,hy2];congr 1;omega;have e1:=congrArg Pr2.e0 (List.mem_singleton.1 h1);have e1':(y':Int)=(y:Int):=e1;rw[show y'=y by omega,hy]
  rw[g.one y' y a hy' hy];rw[if_neg e];rcases List.mem_append.1 h1 with h1|h1
  exact hI.get y' a' h1;have e2:=congrArg Pr2.e1 (List.mem_singleton.1 h1);exact absurd (show(a':Int)=(a:Int) from e2).symm e;have h1':ac (ai mm (a:Int) [⟨(y:Int),bd a⟩]) z=some v:=h1;rw[aF] at h1';by_cases e:(a:Int)=z;exact⟨y,a,List.mem_append_right _ sM,e.symm⟩;rw[if_neg e] at h1';obtain⟨y',a',h2,h3⟩:=hI.key z v h1';exact⟨y',a',List.mem_append_left _ h2,h3⟩;rw[ltf hlt,cdF];rw[List.take_of_length_le oM] at hI;exact⟨mm,rfl,hI⟩
theorem q6c{n:Nat}{h:Nat->Option Nat}(g:CG n h){bd:Nat->Int}{rows:List ((Int×Int)×Int)}(hr:∀y a:Nat,h y=some a->ac rows ((y:Int),(a:Int))=some (bd a))(K:Int->Eds->Option (Int×Int)){R:Option (Int×Int)}(hK:∀m',EdI bd (Bks n h) m'->K 0 m'=R):f6_l6 (ad n) rows K (Bks n h) (Int.toNat (((Bks n h).length:Int) - 0)+1) 0 []=R:=by obtain⟨m',h1,h2⟩:=q6 g hr K (Int.toNat (((Bks n h).length:Int) - 0)+1) 0 [] (Nat.zero_le _) (by have:=iV (h:=h) g.le;omega) ⟨λy a h=>(by cases h),λz v h=>(by cases h),(by simp[kys])⟩;exact h1.trans (hK m' h2)
theorem q7{n:Nat}{h:Nat->Option Nat}(g:CG n h):∀(l:Eds)(acc:Los),(kys l).Nodup->(∀z v,(z,v)∈l->∃y a:Nat,h y=some a/\z=(a:Int))->∃m',eN (f6_m7 (Bk n h)) l acc=some m'/\(∀z,z∉kys l->ac m' z=ac acc z)/\∀y a:Nat,h y=some a->(a:Int)∈kys l->ac m' (a:Int)=some (seg a y)
 |[],acc,_,_=>⟨acc,rfl,λ_ _=>rfl,λ_ _ _ h=>by cases h⟩
 |p::l,acc,hn,hk=>by
  have hn':=List.nodup_cons.1 (show(p.1::kys l).Nodup from hn);obtain⟨y,a,hy,ha⟩:=hk p.1 p.2 List.mem_cons_self;obtain⟨m',h1,h2,h3⟩:=q7 g l (ai acc p.1 (seg a y)) hn'.2 λz v hz=>hk z v (List.mem_cons_of_mem _ hz);refine⟨m',?_,λz hz=>?_,λy' a' hy' hm=>?_⟩;rw[eN,f6_m7];rw[show f39w (Bk n h) p.1=some (seg a y) by rw[ha];exact uc g hy];exact h1;have hz':¬(z=p.1\/z∈kys l):=λe=>hz (List.mem_cons.2 e);rw[h2 z λe=>hz' (.inr e),aF,if_neg λe=>hz' (.inl e.symm)];rcases List.mem_cons.1 (show(a':Int)∈p.1::kys l from hm) with e|e
  have:a'=a:=oM;subst this;rw[h2 _ (by rw[e];exact hn'.1),aF,if_pos (by rw[ha]),g.one y y' a' hy hy'];exact h3 y' a' hy' e
theorem q9{step:Int×Int->Int->Option Int}(hs:∀p w,step p w=some (if p.2>w then p.2 else w)){A:Int}:∀(l:Mi)(w:Int),(∀p∈l,p.2<=A)->w<=A->(w=A\/∃p∈l,p.2=A)->eN step l w=some A
 |[],w,_,_,h=>by
  rcases h with rfl|⟨p,hp,_⟩
  rfl;cases hp
 |p::l,w,h1,h2,h3=>by
  have hp:=h1 p List.mem_cons_self;rw[eN,hs,bnS];refine q9 hs l _ (λq hq=>h1 q (List.mem_cons_of_mem _ hq)) (by split<;>omega) ?_;rcases h3 with h3|⟨q,hq,h4⟩
  exact .inl (by split<;>omega);rcases List.mem_cons.1 hq with rfl|hq
  exact .inl (by split<;>omega);exact .inr ⟨q,hq,h4⟩
theorem q9r{step:Int×Int->Int->Option Int}(hs:∀p w,step p w=some (if p.2>w then p.2 else w)){A:Int}{d:Mi}(hn:(kys d).Nodup)(hv:∀z v,ac d z=some v->0<=v/\v<=A)(hA:∃z,ac d z=some A)(K:Int->Option (Int×Int)){r:Int×Int}(hK:K A=some r):cA d step K 0=some r:=by obtain⟨z,hz⟩:=hA;refine ei λl hp=>?_;rw[q9 hs l 0 (λp hp'=>(hv p.1 p.2 (gE hn (hp.mem_iff.1 hp'))).2) (by have:=hv z A hz;omega) (.inr ⟨(z,A),hp.mem_iff.2 (ej hz),rfl⟩),bnS];exact hK
theorem f6r_eq{n:Nat}{h:Nat->Option Nat}(g:CG n h){t:bD}{c:Nat->Int}{cst bd:Nat->Int}(hi:∀i:Nat,i<n->∃x,idx t.insns (i:Int)=some x/\0<=x.op/\x.op<58/\c x.op.toNat=cst i)(hcost:∀i,0<=cst i/\cst i<=1000)(hbdr:∀a,0<=bd a/\bd a<=2147483647)
  (hl:t.loops.length<=1000)(hlb:∀l∈t.loops,∀a:Nat,l.head=(a:Int)->l.bound=bd a)(hle:∀y a:Nat,h y=some a->∃l∈t.loops,l.back=(y:Int)/\l.head=(a:Int))
  (htop:∀a b f A,Whl n h a b->Pt n h cst bd a b f A->0<=A/\A<=1125899906842624){a:Nat}(ha:(a=n/\∃y,h y=some 0)\/(a=0/\∀y,h y≠some 0)){V:Int}(hV:∀A,Pt n h cst bd a (n - 1) n A->A=V):f6r t c (ad n) (Bk n h)=some (V,0):=by
 have hn:=g.le;have hpos:=g.pos;have hbl:=iV (h:=h) hn;have hadl:(ad n).length=n:=cP _ _;have hW:∀a',(a'=n\/(a'=0/\∀y,h y≠some 0))->Whl n h a' (n - 1):=λa' h'=> .inr ⟨h',oM⟩;have hedl:∀{m:Eds},EdI bd (Bks n h) m->∀z:Int,(∀y a:Nat,h y=some a->z≠(a:Int))->Option.getD (ac m z) []=[]:=λhI z hz=>by
  cases hm:ac _ z with
  |none=>rfl
  |some v=>obtain⟨y,a,h1,h2⟩:=hI.key z v hm;obtain⟨y2,a2,hy2,hp2⟩:=(eh g).1 h1;have e2:(a:Int)=(a2:Int):=congrArg Pr2.e1 hp2;exact absurd (h2.trans e2) (hz y2 a2 hy2)
 have hV2:V<=9007199254740992->(bif decide (V>9007199254740992) then some ((0:Int),(3:Int)) else some (V,0))=some (V,0):=λh'=>by rw[dcF oM,cdF]
 unfold f6r;rw[af];refine(q4 hn hi _ (Int.toNat (((ad n).length:Int) - 0)+1) 0 (Nat.zero_le _) (by rw[hadl];omega)).trans ?_;rw[se g,bnS,Bool.not_true,cdF,af,af];refine q5c hl hlb _ λrows h2=>?_;rw[af,mD g,bnS];refine q6c g (λy a hy=>h2 y a (hle y a hy)) _ λed hI=>?_;rw[af];refine ei λl hp=>?_;have hkey:∀z v,(z,v)∈ed->∃y a:Nat,h y=some a/\z=(a:Int):=λz v hz=>by
  obtain⟨y,a,h3,h4⟩:=hI.key z v (gE hI.nd hz);obtain⟨y2,a2,hy2,hp2⟩:=(eh g).1 h3;have e2:(a:Int)=(a2:Int):=congrArg Pr2.e1 hp2;exact⟨y2,a2,hy2,h4.trans e2⟩
 obtain⟨lo,h3,_,h5⟩:=q7 g l [] ((hp.map _).nodup_iff.2 hI.nd) (λz v hz=>hkey z v (hp.mem_iff.1 hz));rw[h3,bnS];have hed1:∀y a:Nat,h y=some a->ac ed (a:Int)=some [⟨(y:Int),bd a⟩]:=λy a hy=>hI.get y a ((eh g).2 ⟨y,a,hy,rfl⟩);have hlo:∀y a:Nat,h y=some a->ac lo (a:Int)=some (seg a y):=λy a hy=>h5 y a hy ((hp.map _).mem_iff.2 (List.mem_map.2 ⟨_,ej (hed1 y a hy),rfl⟩));show(bif !decide ((0:Int)=0) then _ else _)=_;rw[dcT rfl,Bool.not_true,cdF,af,dK,aq _ (m8 dC oM),Int.toNat_natCast,ji];have hsw:=mf g (nat:=ad n) (co:=mR n cst) (ed:=ed) (lo:=lo) (fo:=[]) (λz=>by
  cases hz:ac ed z with
  |none=>simp
  |some v=>obtain⟨y,a,h6,h7⟩:=hI.key z v hz;have:=hI.get y a h6;rw[<-h7,hz] at this;rw[inS this];simp) (λz e he=>by
  cases hz:ac ed z with
  |none=>rw[hz] at he;cases he
  |some v=>obtain⟨y,a,h6,h7⟩:=hI.key z v hz;have:=hI.get y a h6;rw[<-h7,hz] at this;rw[hz,this] at he;have he':e=⟨(y:Int),bd a⟩:=List.mem_singleton.1 he;obtain⟨y2,a2,hy2,hp2⟩:=(eh g).1 h6;have e1:(y:Int)=(y2:Int):=congrArg Pr2.e0 hp2;have e2:(a:Int)=(a2:Int):=congrArg Pr2.e1 hp2;have:=g.back y2 a2 hy2;rw[he',h7];show(a:Int)<=(y:Int);omega) n 0 100 rfl hpos oM
 rw[show(mR n λj=>decide (j<0))=mR n λ_=>false from di λx=>dcF oM,show((0:Nat):Int)=0 from rfl] at hsw;rw[hsw,bnS];show(bif decide ((List.length (Option.getD (ac ed 0) []):Int)>0) then _ else _)=_;rcases ha with⟨rfl,y0,hy0⟩|⟨rfl,h0⟩
 rw[show Option.getD (ac ed 0) []=[⟨(y0:Int),bd 0⟩] from by rw[show(0:Int)=((0:Nat):Int) from rfl,hed1 y0 0 hy0];rfl,dcT sM,cdT,af,aq _ (v8 (by rw[dK];simp;omega)),aq _ (dM (by rw[cP];simp;omega))];unfold f42o;rw[aq _ (dM (by rw[bX];simp;omega)),bnS,aq _ (dM (by rw[bX];simp;omega))];have t:NT a h cst bd (Bk a h++ [⟨0,0,[0]⟩]) (mR a cst++ [0]) (dsc a 0++ [(a:Int)]) ed lo:={
  nol:= .inr ⟨by rw[List.length_append,bX];rfl,by rw[aZ (by rw[List.length_append,bX];simp),List.getElem_append_right (by rw[bX];omega)];simp[bX]⟩
  nb:=λi hi=>by
   have:=gw h hi;rw[aZ (by rw[dK];exact hi)] at this;rw[aZ (by rw[List.length_append,dK];omega),List.getElem_append_left (by rw[dK];exact hi)];exact this
  nc:=λi hi=>by
   have:=bE (u:=cst) hi;rw[aZ (by rw[cP];exact hi)] at this;rw[aZ (by rw[List.length_append,cP];omega),List.getElem_append_left (by rw[cP];exact hi)];exact this
  no:=λk hk=>by
   have:=nq hk;rw[aZ (by rw[bX];omega)] at this;rw[aZ (by rw[List.length_append,bX];omega),List.getElem_append_left (by rw[bX];omega)];exact this
  ed1:=hed1
  ed0:=hedl hI
  lo:=hlo
  cost:=hcost
  bdr:=hbdr
  top:=htop }
 obtain⟨fo',d,A,e1,e2,e3,e4,e5⟩:=f19_front (nat:=ad a) g t rfl (by rw[aZ (by rw[List.length_append,dK];simp),List.getElem_append_right (by rw[dK];omega)];simp[dK]) (by rw[aZ (by rw[List.length_append,cP];simp),List.getElem_append_right (by rw[cP];omega)];simp[cP]);rw[e1,bnS];show cA d f6_m8 (λw=>bif decide (w>9007199254740992) then some (0,3) else some (w,0)) 0=_;have hA:=hV A e2;subst hA;have:=htop _ _ _ _ (hW a (.inl rfl)) e2;exact q9r (λp w=>rfl) e3 e4 e5 _ (hV2 oM);rw[show Option.getD (ac ed 0) []=[] from hedl hI 0 λy a hy e=>h0 y (by rw[hy];congr 1;omega),dcF sM,cdF];have t:NT n h cst bd (Bk n h) (mR n cst) (dsc n 0) ed lo:={
  nol:= .inl (bX n 0)
  nb:=λi hi=>gw h hi
  nc:=λi hi=>bE hi
  no:=λk hk=>nq hk
  ed1:=hed1
  ed0:=hedl hI
  lo:=hlo
  cost:=hcost
  bdr:=hbdr
  top:=htop }
 obtain⟨fo',d,A,e1,e2,e3,e4,e5⟩:=f19_all (nat:=ad n) g t rfl h0;rw[e1,bnS];show cA d f6_m9 (λw=>bif decide (w>9007199254740992) then some (0,3) else some (w,0)) 0=_;have hA:=hV A e2;subst hA;have:=htop _ _ _ _ (hW 0 (.inr ⟨rfl,h0⟩)) e2;exact q9r (λp w=>rfl) e3 e4 e5 _ (hV2 oM)
end Go.Proofs.YtoigciljcejeaaaGreatDoor
