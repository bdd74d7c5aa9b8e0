/- Part of the proof. -/
import Derived.Test.YtoigciljcejeaaaGreatDoorO
import Derived.Test.YtoigciljcejeaaaGreatDoorLa
set_option linter.all false
set_option maxRecDepth 10000
namespace Go.Proofs.YtoigciljcejeaaaGreatDoor
open Go Go.Sk
open Go.IntKind (i64)
structure Lv where
 b:Nat
 a:Nat
 B:Nat
def mx:List Lv->Nat
 |[]=>0
 |_::_=>1
def ln:List Lv->Nat
 |[]=>0
 |l::r=>l.b+mx r+ln r+l.a+1
def nh(o:Nat):List Lv->Nat->Option Nat
 |[],_=>none
 |l::r,i=>if i+1=o+ln (l::r) then some o else nh (o+l.b+mx r) r i
def nb(o:Nat):List Lv->Nat->Int
 |[],_=>0
 |l::r,z=>if z=o then(l.B:Int) else nb (o+l.b+mx r) r z
def cs:List Lv->Int
 |[]=>0
 |l::r=>((l.B:Int)+1)*(l.b+l.a+1+cs r+mx r)
theorem c5(o:Nat)(l:Lv)(r:List Lv)(i:Nat):nh o (l::r) i=if i+1=o+ln (l::r) then some o else nh (o+l.b+mx r) r i:=rfl
theorem fC(o:Nat)(l:Lv)(r:List Lv)(z:Nat):nb o (l::r) z=if z=o then(l.B:Int) else nb (o+l.b+mx r) r z:=rfl
theorem cw(l:Lv)(r:List Lv):ln (l::r)=l.b+mx r+ln r+l.a+1:=rfl
theorem lg:∀L,0<=cs L
 |[]=>Int.le_refl _
 |l::r=>by
  have:=lg r;unfold cs;exact Int.mul_nonneg oM oM
theorem v6(l:Lv)(r:List Lv):(l.b:Int)+l.a+1+cs r+mx r<=cs (l::r)/\cs r<=cs (l::r):=by
 have:=lg r;have h:(l.b:Int)+l.a+1+cs r+mx r<=cs (l::r):=by rw[show cs (l::r)=(l.B:Int)*(l.b+l.a+1+cs r+mx r)+1*(l.b+l.a+1+cs r+mx r) from Int.add_mul _ _ _];have:0<=(l.B:Int)*(l.b+l.a+1+cs r+mx r):=Int.mul_nonneg oM oM;omega
 exact⟨h,oM⟩
theorem mx0{r:List Lv}(h:mx r=0):r=[]:=by cases r with|nil=>rfl|cons _ _=>cases h
theorem cV:∀(L:List Lv)(o i z:Nat),nh o L i=some z->o<=z/\z<=i/\i<o+ln L
 |[],o,i,z,h=>by cases h
 |l::r,o,i,z,h=>by
  unfold nh at h;have hl:=cw l r;by_cases e:i+1=o+ln (l::r);rw[if_pos e] at h;cases h;omega;rw[if_neg e] at h;have:=cV r _ i z h;omega
theorem fU{l:Lv}{r:List Lv}{o i z:Nat}(h:nh o (l::r) i=some z):(i+1=o+ln (l::r)/\z=o)\/(i+1≠o+ln (l::r)/\nh (o+l.b+mx r) r i=some z/\o<z):=by
 unfold nh at h;by_cases e:i+1=o+ln (l::r);rw[if_pos e] at h;cases h;exact .inl ⟨e,rfl⟩;rw[if_neg e] at h;refine .inr ⟨e,h,?_⟩;have:=cV r _ i z h;cases r with
 |nil=>cases h
 |cons a r2=>have:mx (a::r2)=1:=rfl;omega
theorem sq:∀(L:List Lv)(o i j z:Nat),nh o L i=some z->nh o L j=some z->i=j
 |[],o,i,j,z,h,_=>by cases h
 |l::r,o,i,j,z,h1,h2=>by
  rcases fU h1 with⟨e1,e2⟩|⟨e1,e2,e3⟩<;>rcases fU h2 with⟨f1,f2⟩|⟨f1,f2,f3⟩
  omega;omega;omega;exact sq r _ i j z e2 f2
theorem qq:∀(L:List Lv)(o i z j y:Nat),nh o L i=some z->nh o L j=some y->z<y->y<=i->j<=i
 |[],o,i,z,j,y,h,_,_,_=>by cases h
 |l::r,o,i,z,j,y,h1,h2,h3,h4=>by
  have hj:=cV _ _ _ _ h2;rcases fU h1 with⟨e1,e2⟩|⟨e1,e2,e3⟩
  omega;rcases fU h2 with⟨f1,f2⟩|⟨f1,f2,f3⟩
  omega;exact qq r _ i z j y e2 f2 h3 h4
structure Sub(n:Nat)(h:Nat->Option Nat)(c bd:Nat->Int)(o:Nat)(L:List Lv):Prop where
 h1:∀i,o<=i->i<o+ln L->h i=nh o L i
 h2:∀y z,h y=some z->o<=z->z<o+ln L->o<=y/\y<o+ln L
 h3:∀y z,nh o L y=some z->bd z=nb o L z
 h4:∀i,o<=i->i<o+ln L->c i=1
 h5:o+ln L<=n
 h6:∀y z,h y=some z->z<=y
theorem Sub.tl{n:Nat}{h:Nat->Option Nat}{c bd:Nat->Int}{o:Nat}{l:Lv}{r:List Lv}(s:Sub n h c bd o (l::r)):Sub n h c bd (o+l.b+mx r) r:=by
 have hl:=cw l r;refine⟨λi h1 h2=>?_,λy z h1 h2 h3=>?_,λy z h1=>?_,λi h1 h2=>s.h4 i oM oM,by have:=s.h5;omega,s.h6⟩;rw[s.h1 i oM oM];rw[c5,if_neg oM];have h4:=s.h2 y z h1 oM oM;rw[s.h1 y h4.1 h4.2] at h1;rcases fU h1 with⟨e1,e2⟩|⟨e1,e2,e3⟩
 have:mx r=0:=oM;rw[mx0 this] at h3 h2;have:ln []=0:=rfl;omega;have:=cV _ _ _ _ e2;omega;have h2:=cV _ _ _ _ h1;have hne:¬y+1=o+ln (l::r):=oM;have h3:nh o (l::r) y=some z:=by rw[c5,if_neg hne];exact h1
 rw[s.h3 y z h3,fC];rcases fU h3 with⟨e1,e2⟩|⟨e1,e2,e3⟩
 exact absurd e1 hne;rw[if_neg oM]
def Fm(o:Nat)(l:Lv)(r:List Lv)(f:Nat)(A:Int):Prop:=(o<=f/\f<=o+l.b+mx r/\A=(f:Int) - o)\/(o+l.b+mx r+ln r<=f/\f<=o+ln (l::r)/\A=l.b+mx r+cs r+((f:Int) - (o+l.b+mx r+ln r:Nat)))
theorem m6{n:Nat}{h:Nat->Option Nat}{c bd:Nat->Int}:∀(r:List Lv)(l:Lv)(o:Nat),Sub n h c bd o (l::r)->∀{a b f:Nat}{A:Int},Pt n h c bd a b f A->a=o->b+1=o+ln (l::r)->Fm o l r f A
 |r,l,o,s,a,b,f,A,hp=>by
  have hl:=cw l r;have s5:=s.h5;induction hp with
  |st hab=>intro ha hb;exact .inl ⟨oM,oM,oM⟩
  |fr b=>intro ha hb;omega
  | @go a b f A hp hf hc ih=>
   intro ha hb;rcases ih ha hb with⟨i1,i2,i3⟩|⟨i1,i2,i3⟩
   rw[s.h4 f i1 oM];by_cases e:f<o+l.b+mx r;exact .inl ⟨oM,oM,oM⟩;match r,hl,s with
   |[],hl,s=>have e1:mx []=0:=rfl;have e2:ln []=0:=rfl;have e3:cs []=0:=rfl;exact .inr ⟨oM,oM,oM⟩
   |l'::r',hl,s=>
    exfalso;have e1:mx (l'::r')=1:=rfl;have hl':=cw l' r';have hh:h (o+l.b+mx (l'::r')+ln (l'::r') - 1)=some f:=by rw[s.h1 _ oM oM,c5,if_neg oM,c5,if_pos oM];congr 1;omega
    rcases hc with hc|hc
    omega;exact hc _ hh
   rw[s.h4 f oM oM];exact .inr ⟨oM,oM,oM⟩
  | @lp a b f y A S hp hf hy hyb hq ih _=>
   intro ha hb;have hfr:o<=f/\f<o+ln (l::r)\/f=o+ln (l::r):=by rcases ih ha hb with⟨i1,i2,i3⟩|⟨i1,i2,i3⟩<;>omega
   rcases hfr with hfr|hfr
   have h6:=s.h2 y f hy hfr.1 hfr.2;have hy':=hy;rw[s.h1 y h6.1 h6.2] at hy';rcases fU hy' with⟨g1,g2⟩|⟨g1,g2,g3⟩
   omega;have g4:=cV _ _ _ _ g2;match r,hl,s,ih,g2,g4 with
   |[],_,_,_,g2,_=>cases g2
   |l'::r',hl,s,ih,g2,g4=>
    have e1:mx (l'::r')=1:=rfl;have hl':=cw l' r';rcases ih ha hb with⟨i1,i2,i3⟩|⟨i1,i2,i3⟩
    have hf':f=o+l.b+mx (l'::r'):=oM;have hye:y+1=o+l.b+mx (l'::r')+ln (l'::r'):=by
     rcases fU g2 with⟨k1,k2⟩|⟨k1,k2,k3⟩
     exact k1;omega
    have hS:=m6 r' l' _ s.tl hq hf' hye;have hbd:bd f=l'.B:=by rw[s.h3 y f (by rw[c5,if_neg g1];exact g2),fC,if_neg oM,fC,if_pos hf']
    have hS':S=l'.b+l'.a+1+cs r'+mx r':=by rcases hS with⟨k1,k2,k3⟩|⟨k1,k2,k3⟩<;>omega
    have hcs:bd f*S+S=cs (l'::r'):=by rw[hbd,hS',show cs (l'::r')=(l'.B:Int)*(l'.b+l'.a+1+cs r'+mx r')+1*(l'.b+l'.a+1+cs r'+mx r') from Int.add_mul _ _ _,Int.one_mul]
    rw[hcs];exact .inr ⟨oM,oM,oM⟩;omega
   exfalso;have:=s.h6 y f hy;omega
termination_by r=>r.length
theorem qr{n:Nat}{h:Nat->Option Nat}{c bd:Nat->Int}:∀(L:List Lv)(o:Nat),Sub n h c bd o L->∀{a b f:Nat}{A:Int},nh o L b=some a->Pt n h c bd a b f A->0<=A/\A<=cs L
 |[],o,_,a,b,f,A,h,_=>by cases h
 |l::r,o,s,a,b,f,A,hh,hp=>by
  have hl:=cw l r;have h1:=v6 l r;have h2:=lg r;rcases fU hh with⟨e1,e2⟩|⟨e1,e2,e3⟩
  rcases m6 r l o s hp e2 e1 with⟨k1,k2,k3⟩|⟨k1,k2,k3⟩<;>omega
  have:=qr r _ s.tl e2 hp;omega
def cc(L:List Lv)(i:Nat):Int:=if i<ln L then 1 else 10
theorem qh(L:List Lv):Sub (ln L+1) (nh 0 L) (cc L) (nb 0 L) 0 L:=
 ⟨λi _ _=>rfl,λy z h _ _=>by have:=cV _ _ _ _ h;omega,λy z h=>rfl,λi _ h=>if_pos oM,oM,λy z h=>(cV _ _ _ _ h).2.1⟩
theorem nu{L:List Lv}(hl:ln L+1<=90):CG (ln L+1) (nh 0 L):=
 ⟨oM,hl,λi z h=>by have:=cV _ _ _ _ h;omega,λi j z h1 h2=>sq L 0 i j z h1 h2,λi z j y h1 h2 h3 h4=>qq L 0 i z j y h1 h2 h3 h4⟩
theorem oE(L:List Lv){a b f:Nat}{A:Int}(hp:Pt (ln L+1) (nh 0 L) (cc L) (nb 0 L) a b f A):(a=ln L+1\/(a=0/\L=[]))->b=ln L->(f=0/\A=0)\/(f=ln L/\A=cs L)\/(f=ln L+1/\A=cs L+10):=by
 induction hp with
 |st hab=>intro ha hb;exact .inl ⟨oM,rfl⟩
 |fr b=>intro ha hb;exact .inl ⟨rfl,rfl⟩
 | @go a b f A hp hf hc ih=>
  intro ha hb;have hcc:cc L (ln L)=10:=if_neg oM;have last:f=ln L->A=cs L->(f+1=0/\A+cc L f=0)\/(f+1=ln L/\A+cc L f=cs L)\/(f+1=ln L+1/\A+cc L f=cs L+10):=λe1 e2=> .inr (.inr ⟨oM,by rw[e1,hcc,e2]⟩);rcases ih ha hb with⟨i1,i2⟩|⟨i1,i2⟩|⟨i1,i2⟩;cases L with
  |nil=>exact last i1 i2
  |cons l r=>
   exfalso;have hl:=cw l r;rcases hc with hc|hc
   rcases ha with ha|⟨_,ha⟩
   omega;cases ha;exact hc (ln (l::r) - 1) (by rw[c5,if_pos oM,i1])
  exact last i1 i2;omega
 | @lp a b f y A S hp hf hy hyb hq ih _=>
  intro ha hb;have hr:=cV _ _ _ _ hy;rcases ih ha hb with⟨i1,i2⟩|⟨i1,i2⟩|⟨i1,i2⟩;cases L with
  |nil=>cases hy
  |cons l r=>
   have hl:=cw l r;subst i1;rcases fU hy with⟨e1,e2⟩|⟨e1,e2,e3⟩
   have hS:=m6 r l 0 (qh (l::r)) hq rfl e1;have hS':S=l.b+l.a+1+cs r+mx r:=by rcases hS with⟨k1,k2,k3⟩|⟨k1,k2,k3⟩<;>omega
   have hcs:nb 0 (l::r) 0*S+S=cs (l::r):=by rw[fC,if_pos rfl,hS',show cs (l::r)=(l.B:Int)*(l.b+l.a+1+cs r+mx r)+1*(l.b+l.a+1+cs r+mx r) from Int.add_mul _ _ _,Int.one_mul]
   rw[hcs];exact .inr (.inl ⟨oM,oM⟩);omega
  omega;omega
structure Nok(L:List Lv):Prop where
 len:L.length<=5
 lv:∀l∈L,l.b<=7/\l.a<=7/\l.B<=255
theorem uX:∀(L:List Lv),(∀l∈L,l.b<=7/\l.a<=7/\l.B<=255)->ln L<=16*L.length
 |[],_=>Nat.zero_le _
 |l::r,h=>by
  have h1:=h l List.mem_cons_self;have h2:=uX r λx hx=>h x (List.mem_cons_of_mem _ hx);have h3:mx r<=1:=by cases r<;>simp[mx]
  rw[cw,List.length_cons];omega
def cb:Nat->Int
 |0=>0
 |k+1=>256*(16+cb k)
theorem u5:∀(k:Nat)(L:List Lv),L.length<=k->(∀l∈L,l.b<=7/\l.a<=7/\l.B<=255)->cs L<=cb k
 |0,[],_,_=>Int.le_refl _
 |0,l::r,h,_=>by simp at h
 |k+1,[],_,_=>by
  have:∀k,0<=cb k:=λk=>by
   induction k with
   |zero=>exact Int.le_refl _
   |succ k ih=>show 0<=256*(16+cb k);omega
  exact this _
 |k+1,l::r,hl,h=>by
  have h1:=h l List.mem_cons_self;have h2:=u5 k r (by simpa using hl) λx hx=>h x (List.mem_cons_of_mem _ hx);have h3:mx r<=1:=by cases r<;>simp[mx]
  have h4:=lg r;show((l.B:Int)+1)*(l.b+l.a+1+cs r+mx r)<=256*(16+cb k);exact Int.mul_le_mul oM oM oM oM
theorem Nok.cs{L:List Lv}(h:Nok L):cs L<=17661175009280:=u5 5 L h.len h.lv
theorem Nok.ln{L:List Lv}(h:Nok L):ln L+1<=90:=by have:=uX L h.lv;have:=h.len;omega
theorem qs:∀(L:List Lv)(o z:Nat),(∀l∈L,l.b<=7/\l.a<=7/\l.B<=255)->0<=nb o L z/\nb o L z<=2147483647
 |[],o,z,_=>by show 0<=(0:Int)/\(0:Int)<=_;omega
 |l::r,o,z,h=>by
  have h1:=h l List.mem_cons_self;have h2:=qs r (o+l.b+mx r) z λx hx=>h x (List.mem_cons_of_mem _ hx);rw[fC];split;omega;exact h2
theorem pS{L:List Lv}(hL:Nok L){t:bD}{c:Nat->Int}(hi:∀i:Nat,i<ln L+1->∃x,idx t.insns (i:Int)=some x/\0<=x.op/\x.op<58/\c x.op.toNat=cc L i)(hl:t.loops.length<=1000)(hlb:∀l∈t.loops,∀a:Nat,l.head=(a:Int)->l.bound=nb 0 L a)(hle:∀y a:Nat,nh 0 L y=some a->∃l∈t.loops,l.back=(y:Int)/\l.head=(a:Int)):f6r t c (ad (ln L+1)) (Bk (ln L+1) (nh 0 L))=some (cs L+10,0):=by
 have hcs:=hL.cs;have hc0:=lg L;have hnil:(∀y,nh 0 L y≠some 0)->L=[]:=λh=>by
  cases L with
  |nil=>rfl
  |cons l r=>exact absurd (by rw[c5,if_pos (by have:=cw l r;omega)]) (h (ln (l::r) - 1))
 have htop:∀a b f A,Whl (ln L+1) (nh 0 L) a b->Pt (ln L+1) (nh 0 L) (cc L) (nb 0 L) a b f A->0<=A/\A<=1125899906842624:=λa b f A hw hp=>by
  rcases hw with hw|⟨hw,hb⟩
  have:=qr L 0 (qh L) hw hp;omega;have:=oE L hp (by
   rcases hw with hw|⟨hw,h0⟩
   exact .inl hw;exact .inr ⟨hw,hnil h0⟩) oM
  omega
 have hV:∀a,(a=ln L+1\/(a=0/\L=[]))->∀A,Pt (ln L+1) (nh 0 L) (cc L) (nb 0 L) a (ln L+1 - 1) (ln L+1) A->A=cs L+10:=λa ha A hp=>by
  have:=oE L hp ha oM;omega
 have hcc:∀i,0<=cc L i/\cc L i<=1000:=λi=>by unfold cc;split<;>omega
 by_cases h0:∃y,nh 0 L y=some 0;exact f6r_eq (nu hL.ln) hi hcc (λa=>qs L 0 a hL.lv) hl hlb hle htop (.inl ⟨rfl,h0⟩) (hV _ (.inl rfl));have h1:∀y,nh 0 L y≠some 0:=λy hy=>h0 ⟨y,hy⟩;exact f6r_eq (nu hL.ln) hi hcc (λa=>qs L 0 a hL.lv) hl hlb hle htop (.inr ⟨rfl,h1⟩) (hV _ (.inr ⟨rfl,hnil h1⟩))
structure GT(t:bD)(nx:Int->List Int):Prop where
 n39:∀a:Int,0<=a->a<t.insns.length->f107 t a=some (nx a)
 rng:∀a z:Int,z∈nx a->0<=z/\z<t.insns.length
 asc:∀a:Int,Asc (nx a)
 le:t.insns.length<=100
inductive Rc(nx:Int->List Int)(f:Int):Int->Prop
 |base:Rc nx f f
 |step {a b:Int}:Rc nx f a->b∈nx a->Rc nx f b
theorem Rc.rng{t:bD}{nx:Int->List Int}(g:GT t nx){f:Int}(hf:0<=f/\f<t.insns.length){z:Int}(h:Rc nx f z):0<=z/\z<t.insns.length:=by
 cases h with
 |base=>exact hf
 |step _ h=>exact g.rng _ _ h
theorem sn{t:bD}{nx:Int->List Int}(g:GT t nx)(a:Int):(nx a).length<=100:=Nat.le_trans (kG (fH (g.asc a)) (g.rng a)) g.le
structure RL(nx:Int->List Int)(f:Int)(R:List Int):Prop where
 asc:Asc R
 mem:∀z,z∈R↔Rc nx f z
theorem f68_l2_eq(m:List (Int×List Int))(x:Int)(r:List Int)(K:List (Int×Int)->Option (List aj×Int))(hr:r.Nodup)(hl:r.length<=1000):∀(n i:Nat)(inn:List (Int×Int)),(∀z,0<=ct inn z/\ct inn z<=1000+i)->i<=r.length->r.length<n+i->∃inn',f68_l2 m x r K n (i:Int) inn=K inn'/\∀z,ct inn' z=ct inn z+(if z∈r.drop i then 1 else 0)
 |0,i,_,_,_,h=>oM
 |n+1,i,inn,hc,hi,hn=>by
  rw[f68_l2];have e:Option.getD (ac (ai m x r) x) []=r:=by rw[aF,if_pos rfl];rfl
  rw[e];by_cases hlt:i<r.length;have h0:=hc r[i];rw[ltb hlt,cdT,aZ hlt,bnS,w1n oM,show Option.getD (ac inn r[i]) 0=ct inn r[i] from rfl,w64 (x:=ct inn r[i]+1) oM oM];have hput:∀z,ct (ai inn r[i] (ct inn r[i]+1)) z=ct inn z+(if r[i]=z then 1 else 0):=λz=>by
   unfold ct;rw[aF];by_cases hz:r[i]=z;subst hz;simp;simp[hz]
  obtain⟨inn',h1,h2⟩:=f68_l2_eq m x r K hr hl n (i+1) (ai inn r[i] (ct inn r[i]+1)) (λz=>by
   rw[hput];have:=hc z;split<;>(push_cast;omega)) oM oM
  refine⟨inn',h1,λz=>?_⟩;rw[h2,hput,List.drop_eq_getElem_cons hlt,Int.add_assoc];congr 1;have hnd:r[i]∉r.drop (i+1):=by have:=hr.sublist (List.drop_sublist i r);rw[List.drop_eq_getElem_cons hlt] at this;exact(List.nodup_cons.1 this).1
  by_cases hz:r[i]=z;subst hz;rw[if_neg hnd,if_pos rfl,if_pos List.mem_cons_self];rfl;rw[if_neg hz,Int.zero_add];by_cases hq:z∈r.drop (i+1);rw[if_pos hq,if_pos (List.mem_cons_of_mem _ hq)];rw[if_neg hq,if_neg λh=>by
   rcases List.mem_cons.1 h with h|h
   exact hz h.symm;exact hq h]
  rw[ltf hlt,cdF];refine⟨inn,rfl,λz=>?_⟩;rw[List.drop_eq_nil_of_le oM];simp
structure DI(nx:Int->List Int)(f:Int)(m:List (Int×List Int))(inn:List (Int×Int))(todo:List Int):Prop where
 nd:(kys m).Nodup
 val:∀p∈m,p.2=nx p.1
 rc:∀k∈kys m,Rc nx f k
 tr:∀z∈todo,Rc nx f z
 st:f∈kys m\/f∈todo
 cl:∀k∈kys m,∀b∈nx k,b∈kys m\/b∈todo
 cnt:∀x,ct inn x=(((kys m).filter λk=>decide (x∈nx k)).length:Int)
theorem iy{α:Type}(m:List (Int×α))(k:Int)(v:α):kys (m++ [(k,v)])=kys m++ [k]:=by simp[kys]
theorem f68_l1_eq{t:bD}{nx:Int->List Int}(g:GT t nx){f:Int}(hf:0<=f/\f<t.insns.length)(K:List (Int×List Int)->List (Int×Int)->List Int->Option (List aj×Int)):∀(n:Nat)(m:List (Int×List Int))(inn:List (Int×Int))(todo:List Int),DI nx f m inn todo->(t.insns.length - m.length)*101+todo.length<n->todo.length<=1+100*m.length->∃m' inn',DI nx f m' inn' []/\f68_l1 t K n m inn todo=K m' inn' []
 |0,_,_,_,_,h,_=>oM
 |n+1,m,inn,todo,hd,hn,ht=>by
  have hml:m.length<=t.insns.length:=by have:=kG hd.nd λz hz=>(hd.rc z hz).rng g hf;simpa[kys] using this
  have hle:=g.le;rw[f68_l1];rcases List.eq_nil_or_concat todo with rfl|⟨lo,x,rfl⟩
  rw[dcF sM,cdF];exact⟨m,inn,hd,rfl⟩;simp only[List.concat_eq_append] at hd hn ht⊢;simp only[List.length_append,List.length_singleton] at hn ht;have hx:=hd.tr x sM;have hxr:=hx.rng g hf;have hwl:i64.wrap (((lo++ [x]).length:Int) - 1)=(lo.length:Int):=by rw[w64 (by simp only[List.length_append,List.length_singleton];omega) (by simp only[List.length_append,List.length_singleton];omega)];simp
  have htk:List.take (Int.toNat (lo.length:Int)) (lo++ [x])=lo:=sM;rw[dcT (show((lo++ [x]).length:Int)>0 by simp only[List.length_append,List.length_singleton];omega),cdT,af,hwl,aZ (show lo.length<(lo++ [x]).length by simp),bnS,htk,aq _ (by simp[cm];omega)];have hge:(lo++ [x])[lo.length]'sM=x:=sM;rw[hge];by_cases hk:x∈kys m;have hs:Option.isSome (ac m x)=true:=by
   cases hm:ac m x with
   |none=>exact absurd hk (gi.1 hm)
   |some _=>rfl
  rw[hs,cdT];refine f68_l1_eq g hf K n m inn lo ⟨hd.nd,hd.val,hd.rc,λz hz=>hd.tr z (by simp[hz]),?_,λk hk' b hb=>?_,hd.cnt⟩ oM oM;rcases hd.st with h|h
  exact .inl h;rcases List.mem_append.1 h with h|h
  exact .inr h;rw[List.mem_singleton.1 h];exact .inl hk;rcases hd.cl k hk' b hb with h|h
  exact .inl h;rcases List.mem_append.1 h with h|h
  exact .inr h;rw[List.mem_singleton.1 h];exact .inl hk;have hs:Option.isSome (ac m x)=false:=by rw[gi.2 hk];rfl
  have e:Option.getD (ac (ai m x (nx x)) x) []=nx x:=by rw[aF,if_pos rfl];rfl
  have hnl:=sn g x;rw[hs,cdF,g.n39 x hxr.1 hxr.2,bnS,af,e];have hkl:(kys m).length<=100:=by simp[kys];omega
  obtain⟨inn',h1,h2⟩:=f68_l2_eq m x (nx x) (λm156=>au (aO 8 lo (nx x)) (f68_l1 t K n (ai m x (nx x)) m156 (lo++nx x))) (fH (g.asc x)) oM (Int.toNat (((nx x).length:Int) - 0)+1) 0 inn (λz=>by
   rw[hd.cnt];have:=List.length_filter_le (λk=>decide (z∈nx k)) (kys m);omega) (Nat.zero_le _) oM
  rw[show((0:Nat):Int)=0 from rfl] at h1;rw[h1,aq _ (dM oM),oH hk];refine f68_l1_eq g hf K n _ inn' (lo++nx x) ⟨?_,?_,?_,?_,?_,?_,?_⟩ ?_ ?_;rw[iy,List.nodup_append];exact⟨hd.nd,sM,λa ha b hb=>by rw[List.mem_singleton.1 hb];exact λe=>hk (e▸ha)⟩;intro p hp;rcases List.mem_append.1 hp with hp|hp
  exact hd.val p hp;rw[List.mem_singleton.1 hp];intro k hk';rw[iy] at hk';rcases List.mem_append.1 hk' with hk'|hk'
  exact hd.rc k hk';rw[List.mem_singleton.1 hk'];exact hx;intro z hz;rcases List.mem_append.1 hz with hz|hz
  exact hd.tr z (by simp[hz]);exact .step hx hz;rw[iy];rcases hd.st with h|h
  exact .inl (List.mem_append_left _ h);rcases List.mem_append.1 h with h|h
  exact .inr (List.mem_append_left _ h);exact .inl (List.mem_append_right _ h);intro k hk' b hb;rw[iy] at hk'⊢;rcases List.mem_append.1 hk' with hk'|hk'
  rcases hd.cl k hk' b hb with h|h
  exact .inl (List.mem_append_left _ h);rcases List.mem_append.1 h with h|h
  exact .inr (List.mem_append_left _ h);exact .inl (List.mem_append_right _ h);rw[List.mem_singleton.1 hk'] at hb;exact .inr (List.mem_append_right _ hb);intro z;rw[h2,hd.cnt,iy,List.filter_append,List.length_append,List.drop_zero];by_cases hz:z∈nx x;simp[hz];simp[hz];have hml':m.length<t.insns.length:=by
   have:=kG (l:=x::kys m) (N:=t.insns.length) (List.nodup_cons.2 ⟨hk,hd.nd⟩) λz hz=>by
    rcases List.mem_cons.1 hz with rfl|hz
    exact hxr;exact(hd.rc z hz).rng g hf
   simp[kys] at this;omega
  simp only[List.length_append,List.length_singleton];omega;simp only[List.length_append,List.length_singleton];omega
structure WkN(nx:Int->List Int)(f:Int)(m:List (Int×List Int))(inn:List (Int×Int)):Prop where
 nd:(kys m).Nodup
 mem:∀z,z∈kys m↔Rc nx f z
 val:∀p∈m,p.2=nx p.1
 cnt:∀x,ct inn x=(((kys m).filter λk=>decide (x∈nx k)).length:Int)
theorem DI.wkN{nx:Int->List Int}{f:Int}{m:List (Int×List Int)}{inn:List (Int×Int)}(h:DI nx f m inn []):WkN nx f m inn:=by
 refine⟨h.nd,λz=>⟨h.rc z,λhz=>?_⟩,h.val,h.cnt⟩;induction hz with
 |base=>
   rcases h.st with h|h
   exact h;simp at h
 |step _ h2 ih=>
   rcases h.cl _ ih _ h2 with h|h
   exact h;simp at h
theorem f68_walk{t:bD}{nx:Int->List Int}(g:GT t nx){f:Int}(hf:0<=f/\f<t.insns.length)(K:List (Int×List Int)->List (Int×Int)->List Int->Option (List aj×Int))(B:Nat)(hB:B=9223372036854775808):∃m inn,WkN nx f m inn/\f68_l1 t K B [] [] [f]=K m inn []:=by have hg:=g.le;obtain⟨m,inn,h1,h2⟩:=f68_l1_eq g hf K B [] [] [f] ⟨by simp[kys],sM,by simp[kys],λz hz=>by rw[List.mem_singleton.1 hz];exact .base, .inr sM,by simp[kys],λx=>by simp[kys,ct,ac]⟩ (by simp;omega) sM;exact⟨m,inn,h1.wkN,h2⟩
theorem WkN.get{nx:Int->List Int}{f:Int}{m:List (Int×List Int)}{inn:List (Int×Int)}(h:WkN nx f m inn)(z:Int)(hz:Rc nx f z):ac m z=some (nx z):=by
 cases hm:ac m z with
 |none=>exact absurd ((h.mem z).2 hz) (gi.1 hm)
 |some v=>rw[show v=nx z from h.val _ (ej hm)]
theorem WkN.no{nx:Int->List Int}{f:Int}{m:List (Int×List Int)}{inn:List (Int×Int)}(h:WkN nx f m inn)(z:Int)(hz:¬Rc nx f z):ac m z=none:=gi.2 λh'=>hz ((h.mem z).1 h')
theorem WkN.ct{nx:Int->List Int}{f:Int}{m:List (Int×List Int)}{inn:List (Int×Int)}(h:WkN nx f m inn){R:List Int}(hR:RL nx f R)(x:Int):ct inn x=((R.filter λk=>decide (x∈nx k)).length:Int):=by
 rw[h.cnt];have hp:(kys m).Perm R:=(List.perm_ext_iff_of_nodup h.nd (fH hR.asc)).2 λz=>by rw[h.mem,hR.mem]
 rw[(hp.filter _).length_eq]
def cnR(nx:Int->List Int)(R:List Int)(x:Int):Nat:=(R.filter λk=>decide (x∈nx k)).length
def jn(nx:Int->List Int)(R:List Int)(f a:Int):Bool:=(decide (a∈R)&&decide (nx a=[a+1]))&& !decide (a+1=f)&&decide (cnR nx R (a+1)=1)
def hp(nx:Int->List Int)(R:List Int)(f x:Int):Bool:= !decide (x=f)&& !jn nx R f (x - 1)
theorem jj{nx:Int->List Int}{R:List Int}{f a:Int}:jn nx R f a=true↔a∈R/\nx a=[a+1]/\a+1≠f/\cnR nx R (a+1)=1:=by unfold jn;simp only[Bool.and_eq_true,decide_eq_true_eq,Bool.not_eq_true',decide_eq_false_iff_not];constructor;rintro⟨⟨⟨h1,h2⟩,h3⟩,h4⟩;exact⟨h1,h2,h3,h4⟩;rintro⟨h1,h2,h3,h4⟩;exact⟨⟨⟨h1,h2⟩,h3⟩,h4⟩
theorem vA(l:List Int)(a:Int):(bif decide ((l.length:Int)=1) then(Option.bind (idx l 0) λx=>some (decide (x=a))) else some false)=some (decide (l=[a])):=by
 match l with
 |[]=>rfl
 |[x]=>rw[dcT sM,cdT];show some (decide (x=a))=_;simp
 |x::y::r=>rw[dcF (by simp;omega),cdF];simp
theorem uY{t:bD}{nx:Int->List Int}(g:GT t nx){f:Int}(hf:0<=f/\f<t.insns.length){m:List (Int×List Int)}{inn:List (Int×Int)}(w:WkN nx f m inn){R:List Int}(hR:RL nx f R){β:Type}(a:Int)(ha: -10<=a/\a<=1000)(K:Bool->Option β):(Option.bind (bif ((Option.isSome (ac m a))&&(decide ((List.length (Option.getD (ac m a) []):Int)=1))) then(Option.bind (idx (Option.getD (ac m a) []) 0) λx232=>some (decide (x232=(i64.wrap (a+1))))) else some false) λb231=>K ((b231&&(!decide ((i64.wrap (a+1))=f)))&&(decide ((Option.getD (ac inn (i64.wrap (a+1))) 0)=1))))=K (jn nx R f a):=by
 rw[w64 (x:=a+1) oM oM];have hc:decide (Option.getD (ac inn (a+1)) 0=1)=decide (cnR nx R (a+1)=1):=by have:=w.ct hR (a+1);unfold ct at this;rw[this];unfold cnR;exact decide_eq_decide.2 oM
 rw[hc];by_cases hr:Rc nx f a;have ha':decide (a∈R)=true:=dcT ((hR.mem a).2 hr);rw[w.get a hr];have h1:=vA (nx a) (a+1);simp only[Option.isSome_some,Bool.true_and,Option.getD_some];rw[h1,bnS];unfold jn;rw[ha',Bool.true_and];have ha':decide (a∈R)=false:=dcF λh=>hr ((hR.mem a).1 h);rw[w.no a hr];simp only[Option.isSome_none,Bool.false_and,cdF,bnS];unfold jn;rw[ha',Bool.false_and,Bool.false_and,Bool.false_and]
theorem RL.rng{t:bD}{nx:Int->List Int}(g:GT t nx){f:Int}(hf:0<=f/\f<t.insns.length){R:List Int}(hR:RL nx f R){z:Int}(hz:z∈R):0<=z/\z<t.insns.length:=((hR.mem z).1 hz).rng g hf
theorem RL.len{t:bD}{nx:Int->List Int}(g:GT t nx){f:Int}(hf:0<=f/\f<t.insns.length){R:List Int}(hR:RL nx f R):R.length<=100:=Nat.le_trans (kG (fH hR.asc) λz hz=>hR.rng g hf hz) g.le
theorem qt{t:bD}{nx:Int->List Int}(g:GT t nx){f:Int}(hf:0<=f/\f<t.insns.length){m:List (Int×List Int)}{inn:List (Int×Int)}(w:WkN nx f m inn){R:List Int}(hR:RL nx f R):∀(l:List (Int×List Int))(acc:List Int),(∀p∈l,p∈m)->acc.length+l.length<=1000->eN (f68_m3 f m inn) l acc=some (acc++(kys l).filter (hp nx R f))
 |[],acc,_,_=>by simp[eN,kys]
 |p::l,acc,hm,hl=>by
  have hpm:=hm p sM;have hpr:Rc nx f p.1:=(w.mem p.1).1 (List.mem_map.2 ⟨p,hpm,rfl⟩);have h0:=hpr.rng g hf;have hg:=g.le;simp only[List.length_cons] at hl;rw[eN];have hstep:f68_m3 f m inn p acc=some (acc++if hp nx R f p.1=true then[p.1] else[]):=by
   rw[f68_m3];unfold hp;cases decide (p.1=f) with
   |true=>simp
   |false=>
    rw[Bool.not_false,cdT,af,w64 (x:=p.1 - 1) oM oM];have:=uY g hf w hR (p.1 - 1) oM (λb=>(bif !b then au (aO 8 acc [p.1]) (some (acc++ [p.1])) else some acc));refine Eq.trans this ?_;cases jn nx R f (p.1 - 1) with
    |true=>simp
    |false=>rw[Bool.not_false,cdT,aq _ (dM (by simp;omega))];rfl
  rw[hstep,bnS,qt g hf w hR l _ (λq hq=>hm q (by simp[hq])) (by cases hp nx R f p.1<;>simp<;>omega)];show _=some (acc++(p.1::kys l).filter (hp nx R f));rw[List.filter_cons];cases hp nx R f p.1<;>simp
theorem ij{M:List Int}(h:M.Nodup):Asc (M.mergeSort λx y=>decide (x<=y)):=by
 have h1:(M.mergeSort λx y=>decide (x<=y)).Pairwise (·<=·):=by have:=List.pairwise_mergeSort (le:=λx y:Int=>decide (x<=y)) (λa b c h1 h2=>by simp at*;omega) (λa b=>by simp;omega) M;exact List.Pairwise.imp (λh=>by simpa using h) this
 have h2:(M.mergeSort λx y=>decide (x<=y)).Nodup:=(List.mergeSort_perm M _).nodup_iff.2 h;exact List.Pairwise.imp (λh=>by have:=h.1;have:=h.2;omega) (h1.and h2)
def HL(nx:Int->List Int)(R:List Int)(f:Int):List Int:=[f]++R.filter (hp nx R f)
theorem sK{t:bD}{nx:Int->List Int}(g:GT t nx){f:Int}(hf:0<=f/\f<t.insns.length){m:List (Int×List Int)}{inn:List (Int×Int)}(w:WkN nx f m inn){R:List Int}(hR:RL nx f R)(K:List Int->Option (List aj×Int))(r:List aj×Int)(hK:K (HL nx R f)=some r):cA m (f68_m3 f m inn) (λlw166=>au (cm lw166 1 (List.length lw166:Int)) (Option.bind (f74t lw166) K)) [f]=some r:=by
 refine ei λl hl=>?_;have hg:=g.le;have hml:m.length<=100:=by have:=kG w.nd λz hz=>((w.mem z).1 hz).rng g hf;simp[kys] at this;omega
 have hll:=hl.length_eq;rw[qt g hf w hR l [f] (λp hp=>hl.mem_iff.1 hp) (by simp;omega),bnS];have hfl:((kys l).filter (hp nx R f)).length<=100:=Nat.le_trans (List.length_filter_le _ _) (by simp[kys];omega);rw[aq _ (by simp[cm];omega)];unfold f74t;rw[aq _ (dcT sM),aq _ (dcT (by simp;omega)),bnS,<-hK];congr 1;unfold HL;rw[show List.take 1 ([f]++(kys l).filter (hp nx R f))=[f] from rfl,show List.drop 1 ([f]++(kys l).filter (hp nx R f))=(kys l).filter (hp nx R f) from rfl];congr 1;have hpl:(kys l).Perm (kys m):=hl.map _;refine eP (ij ((hpl.nodup_iff.2 w.nd).filter _)) (hR.asc.filter _) λz=>?_;rw[List.mem_mergeSort,List.mem_filter,List.mem_filter,hpl.mem_iff,w.mem,hR.mem]
structure En(nx:Int->List Int)(R:List Int)(f a e:Int):Prop where
 mem:e∈R
 le:a<=e
 no:jn nx R f e=false
 yes:∀z,a<=z->z<e->jn nx R f z=true
theorem vX{t:bD}{nx:Int->List Int}(g:GT t nx){f:Int}(hf:0<=f/\f<t.insns.length){m:List (Int×List Int)}{inn:List (Int×Int)}(w:WkN nx f m inn){R:List Int}(hR:RL nx f R):∀(d:Nat)(a:Int),a∈R->t.insns.length - a<=d->∃e,En nx R f a e/\(∀n K,d<n->f68_l6 f m inn K n (a+1)=K (e+1))
 |0,a,ha,hd=>by have:=hR.rng g hf ha;omega
 |d+1,a,ha,hd=>by
  have h0:=hR.rng g hf ha;have hg:=g.le;have s6:∀n K,f68_l6 f m inn K (n+1) (a+1)=bif jn nx R f a then f68_l6 f m inn K n (a+1+1) else K (a+1):=λn K=>by
   rw[f68_l6,af,show i64.wrap (a+1 - 1)=a by rw[w64 oM oM];omega];have:=uY g hf w hR a oM (λb=>(bif b then f68_l6 f m inn K n (i64.wrap (a+1+1)) else K (a+1)));refine Eq.trans this ?_;rw[w64 (x:=a+1+1) oM oM]
  cases hj:jn nx R f a with
  |false=>refine⟨a,⟨ha,Int.le_refl _,hj,λz h1 h2=>oM⟩,λn K hn=>?_⟩;obtain⟨n',rfl⟩:∃k,n=k+1:=⟨n - 1,oM⟩;rw[s6,hj,cdF]
  |true=>have h1:=jj.1 hj;have ha1:a+1∈R:=(hR.mem _).2 (.step ((hR.mem a).1 ha) (by rw[h1.2.1];simp));obtain⟨e,he,e6⟩:=vX g hf w hR d (a+1) ha1 oM;refine⟨e,⟨he.mem,by have:=he.le;omega,he.no,λz h2 h3=>?_⟩,λn K hn=>?_⟩;by_cases hz:z=a;rw[hz];exact hj;exact he.yes z oM h3;obtain⟨n',rfl⟩:∃k,n=k+1:=⟨n - 1,oM⟩;rw[s6,hj,cdT,e6 n' K oM]
def hB(nx:Int->List Int)(H:List Int)(e:Int)(j:Nat):Bool:=match H[j]? with
 |some h=>decide (h∈nx e)
 |none=>false
def tg(nx:Int->List Int)(H:List Int)(e:Int):List Int:=((List.range H.length).filter (hB nx H e)).map λn:Nat=>(n:Int)
theorem f68_l4_eq(H:List Int)(K:List (Int×Int)->Option (List aj×Int))(hH:H.length<=1000)(hn:H.Nodup):∀(n i:Nat)(m:List (Int×Int)),(∀j,j<i->∀h:j<H.length,ac m H[j]=some (j:Int))->i<=H.length->H.length<n+i->∃m',f68_l4 H K n (i:Int) m=K m'/\∀j,∀h:j<H.length,ac m' H[j]=some (j:Int)
 |0,i,_,_,_,h=>oM
 |n+1,i,m,hm,hi,hnn=>by
  rw[f68_l4];by_cases hlt:i<H.length;rw[ltb hlt,cdT,aZ hlt,bnS,w1n oM];refine f68_l4_eq H K hH hn n (i+1) _ (λj hj h=>?_) oM oM;rw[aF];by_cases hji:j=i;subst hji;rw[if_pos rfl];rw[if_neg λe=>List.pairwise_iff_getElem.1 hn j i h hlt oM e.symm];exact hm j oM h;rw[ltf hlt,cdF];exact⟨m,rfl,λj h=>hm j oM h⟩
theorem f68_l7_eq(m:List (Int×List Int))(num:List (Int×Int))(c:Int)(L:List Int)(hL:Option.getD (ac m (i64.wrap (c - 1))) []=L)(hl:L.length<=1000)(K:List Int->Option (List aj×Int)):∀(n i:Nat)(acc:List Int),i<=L.length->L.length<n+i->acc.length<=i->f68_l7 m num c K n (i:Int) acc=K (acc++(L.drop i).map λz=>Option.getD (ac num z) 0)
 |0,i,_,_,h,_=>oM
 |n+1,i,acc,hi,hn,ha=>by
  rw[f68_l7,hL];by_cases hlt:i<L.length;rw[ltb hlt,cdT,aZ hlt,bnS,aq _ (dM (by simp;omega)),w1n oM,f68_l7_eq m num c L hL hl K n (i+1) _ oM oM (by simp;omega),List.drop_eq_getElem_cons hlt,List.map_cons,List.append_assoc];rfl;rw[ltf hlt,cdF,List.drop_eq_nil_of_le oM];simp
theorem va{nx:Int->List Int}{R:List Int}{f:Int}(hR:RL nx f R):(HL nx R f).Nodup:=by unfold HL;rw[List.nodup_append];refine⟨sM,(fH hR.asc).filter _,λa ha b hb=>?_⟩;rw[List.mem_singleton.1 ha];have:=(List.mem_filter.1 hb).2;unfold hp at this;simp only[Bool.and_eq_true,Bool.not_eq_true',decide_eq_false_iff_not] at this;exact λe=>this.1 e.symm
theorem p9{t:bD}{nx:Int->List Int}(g:GT t nx){f:Int}(hf:0<=f/\f<t.insns.length){R:List Int}(hR:RL nx f R):(HL nx R f).length<=101:=by have:=hR.len g hf;have:=List.length_filter_le (hp nx R f) R;unfold HL;simp;omega
theorem nC{nx:Int->List Int}{f:Int}{R:List Int}(hR:RL nx f R){z:Int}(hz:z∈HL nx R f):z∈R:=by
 unfold HL at hz;rcases List.mem_append.1 hz with h|h
 rw[List.mem_singleton.1 h];exact(hR.mem f).2 .base;exact(List.mem_filter.1 h).1
theorem nD{nx:Int->List Int}{f:Int}{R:List Int}(hR:RL nx f R){z:Int}:z∈HL nx R f↔z∈R/\(z=f\/jn nx R f (z - 1)=false):=by
 unfold HL;rw[List.mem_append,List.mem_singleton,List.mem_filter];unfold hp;simp only[Bool.and_eq_true,Bool.not_eq_true',decide_eq_false_iff_not];constructor;rintro(h|⟨h1,h2,h3⟩);rw[h];exact⟨(hR.mem f).2 .base, .inl rfl⟩;exact⟨h1, .inr h3⟩;rintro⟨h1,h2⟩;by_cases h:z=f;exact .inl h;rcases h2 with h2|h2
 exact absurd h2 h;exact .inr ⟨h1,h,h2⟩
theorem oa{nx:Int->List Int}{f:Int}{R:List Int}(hR:RL nx f R){e z:Int}(he:e∈R)(hn:jn nx R f e=false)(hz:z∈nx e):z∈HL nx R f:=by
 rw[nD hR];refine⟨(hR.mem z).2 (.step ((hR.mem e).1 he) hz),?_⟩;cases hj:jn nx R f (z - 1) with
 |false=>exact .inr rfl
 |true=>obtain⟨h1,h2,h3,h4⟩:=jj.1 hj;rw[show z - 1+1=z by omega] at h2 h4;unfold cnR at h4;have m1:e∈R.filter λk=>decide (z∈nx k):=List.mem_filter.2 ⟨he,dcT hz⟩;have m2:z - 1∈R.filter λk=>decide (z∈nx k):=List.mem_filter.2 ⟨h1,dcT (by rw[h2];simp)⟩;obtain⟨y,hy⟩:=List.length_eq_one_iff.1 h4;rw[hy] at m1 m2;have:e=z - 1:=(List.mem_singleton.1 m1).trans (List.mem_singleton.1 m2).symm;rw[this] at hn;rw[hn] at hj;cases hj
theorem rU(nx:Int->List Int)(H:List Int)(e:Int):Asc (tg nx H e):=jb _ _
theorem tT{t:bD}{nx:Int->List Int}(g:GT t nx){f:Int}{R:List Int}(hR:RL nx f R){num:List (Int×Int)}(hnum:∀j,∀h:j<(HL nx R f).length,ac num (HL nx R f)[j]=some (j:Int)){e:Int}(he:e∈R)(hn:jn nx R f e=false):(((nx e).map λz=>Option.getD (ac num z) 0).mergeSort λx y=>decide (x<=y))=tg nx (HL nx R f) e:=by
 have hj:∀z∈nx e,∃j,∃h:j<(HL nx R f).length,(HL nx R f)[j]=z/\Option.getD (ac num z) 0=(j:Int):=λz hz=>by
  obtain⟨j,h,rfl⟩:=List.getElem_of_mem (oa hR he hn hz);exact⟨j,h,rfl,by rw[hnum j h];rfl⟩
 have hnd:((nx e).map λz=>Option.getD (ac num z) 0).Nodup:=by unfold List.Nodup;rw[List.pairwise_map];refine List.Pairwise.imp_of_mem (λ{a b} ha hb hab=>?_) (fH (g.asc e));obtain⟨j,h1,h2,h3⟩:=hj a ha;obtain⟨k,k1,k2,k3⟩:=hj b hb;rw[h3,k3];intro e;have:j=k:=oM;subst this;exact hab (h2.symm.trans k2)
 refine eP (ij hnd) (rU _ _ _) λz=>?_;rw[List.mem_mergeSort];unfold tg;constructor;intro hz;obtain⟨y,hy,rfl⟩:=List.mem_map.1 hz;obtain⟨j,h1,h2,h3⟩:=hj y hy;refine List.mem_map.2 ⟨j,List.mem_filter.2 ⟨List.mem_range.2 h1,?_⟩,h3.symm⟩;unfold hB;rw[geG h1,h2];exact dcT hy;intro hz;obtain⟨j,hjm,rfl⟩:=List.mem_map.1 hz;have h1:=List.mem_filter.1 hjm;have hl:=List.mem_range.1 h1.1;have h2:=h1.2;unfold hB at h2;rw[geG hl] at h2;have h2:=of_decide_eq_true h2;refine List.mem_map.2 ⟨_,h2,?_⟩;rw[hnum j hl];rfl
def bk1(nx:Int->List Int)(H:List Int)(E:Int->Int)(h:Int):aj:=⟨h,E h+1,tg nx H (E h)⟩
theorem u9{L M:List aj}(h:L.length+M.length<=1000000):aO 40 L M=true:=eQ dC oM
structure BkS(nx:Int->List Int)(f:Int)(R:List Int)(E:Int->Int):Prop where
 rl:RL nx f R
 en:∀a∈R,En nx R f a (E a)
theorem rx{t:bD}{nx:Int->List Int}(g:GT t nx){f:Int}(hf:0<=f/\f<t.insns.length)(hv:f11 t=some true):∃R E,BkS nx f R E/\f68 t f=some ((HL nx R f).map (bk1 nx (HL nx R f) E),0):=by
 have hg:=g.le;obtain⟨B,hB⟩:∃F:Nat,F=9223372036854775808:=⟨_,rfl⟩;obtain⟨m,inn,w,_⟩:=f68_walk g hf (λ_ _ _=>none) B hB;have hR:RL nx f ((kys m).mergeSort λx y=>decide (x<=y)):=⟨ij w.nd,λz=>by rw[List.mem_mergeSort];exact w.mem z⟩;generalize(kys m).mergeSort (λx y=>decide (x<=y))=R at hR;have hE:∀a:Int,∃e:Int,a∈R->En nx R f a e:=by intro a;by_cases ha:a∈R;have h0:=hR.rng g hf ha;obtain⟨e,h1,h2⟩:=vX g hf w hR 100 a ha oM;exact⟨e,λ_=>h1⟩;exact⟨0,λh=>absurd h ha⟩
 obtain⟨E,hE⟩:=Classical.skolem.1 hE;have hHl:=p9 g hf hR;refine⟨R,E,⟨hR,λa ha=>hE a ha⟩,?_⟩;unfold f68;rw[<-hB,hv,bnS,dcF oM,dcF oM];simp only[Bool.not_true,Bool.or_self,cdF,af];obtain⟨m,inn,w,e1⟩:=f68_walk g hf (λm126 m127 lw128=>cA m126 (f68_m3 f m126 m127) (λzw192=>au (cm zw192 1 (List.length zw192:Int)) (Option.bind (f74t zw192) λr194=>f68_l4 r194 (λm195=>f68_l5 f m126 m127 r194 m195 (λlw204=>some (lw204,0)) (Int.toNat ((List.length r194:Int) - 0)+1) 0 []) (Int.toNat ((List.length r194:Int) - 0)+1) 0 ([]:List (Int×Int)))) [f]) B hB;rw[e1];refine sK g hf w hR _ _ ?_;obtain⟨num,n1,n2⟩:=f68_l4_eq (HL nx R f) (λm195=>f68_l5 f m inn (HL nx R f) m195 (λlw204=>some (lw204,0)) (Int.toNat ((List.length (HL nx R f):Int) - 0)+1) 0 []) oM (va hR) (Int.toNat ((List.length (HL nx R f):Int) - 0)+1) 0 [] (λj hj=>oM) (Nat.zero_le _) oM;rw[show((0:Nat):Int)=0 from rfl] at n1;rw[n1];have hE6:∀a∈R,∀n K,100<n->f68_l6 f m inn K n (a+1)=K (E a+1):=λa ha n K hn=>by
  have h0:=hR.rng g hf ha;obtain⟨e,h1,h2⟩:=vX g hf w hR 100 a ha oM;have h4:=hE a ha;have:e=E a:=by
   rcases Int.lt_trichotomy e (E a) with h|h|h
   have:=h4.yes e h1.le h;rw[h1.no] at this;cases this;exact h;have:=h1.yes (E a) h4.le h;rw[h4.no] at this;cases this
  rw[<-this];exact h2 n K hn
 have l5:∀(n i:Nat)(acc:List aj),i<=(HL nx R f).length->(HL nx R f).length<n+i->acc.length<=i->f68_l5 f m inn (HL nx R f) num (λlw204=>some (lw204,(0:Int))) n (i:Int) acc=some (acc++((HL nx R f).drop i).map (bk1 nx (HL nx R f) E),0):=by
  intro n;induction n with
  |zero=>intro i acc h1 h2;omega
  |succ n ih=>
   intro i acc hi hn ha;rw[f68_l5,<-hB];by_cases hlt:i<(HL nx R f).length;have hh:=nC hR (List.getElem_mem hlt);have h0:=hR.rng g hf hh;have hen:=hE _ hh;have he0:=hR.rng g hf hen.mem;have hlx:=sn g (E (HL nx R f)[i]);rw[ltb hlt,cdT,af,aZ hlt,bnS,af,w64 (x:=(HL nx R f)[i]+1) oM oM,hE6 _ hh B _ oM,af];have hL:Option.getD (ac m (i64.wrap (E (HL nx R f)[i]+1 - 1))) []=nx (E (HL nx R f)[i]):=by rw[w64 oM oM,show E (HL nx R f)[i]+1 - 1=E (HL nx R f)[i] by omega,w.get _ ((hR.mem _).1 hen.mem)];rfl
   have h7:=λK=>f68_l7_eq m num (E (HL nx R f)[i]+1) _ hL oM K (Int.toNat (((nx (E (HL nx R f)[i])).length:Int) - 0)+1) 0 [] (Nat.zero_le _) oM sM;simp only[show((0:Nat):Int)=0 from rfl,List.drop_zero,List.nil_append] at h7;rw[hL,h7];unfold f74;rw[aq _ (dcT (by simp;omega)),bnS,tT g hR n2 hen.mem hen.no,aq _ (u9 (by simp;omega)),w1n oM];have:=ih (i+1) (acc++ [bk1 nx (HL nx R f) E (HL nx R f)[i]]) oM oM (by simp;omega);rw[List.drop_eq_getElem_cons hlt,List.map_cons];refine Eq.trans this ?_;rw[List.append_assoc];rfl;rw[ltf hlt,cdF,List.drop_eq_nil_of_le oM];simp
 have:=l5 (Int.toNat ((List.length (HL nx R f):Int) - 0)+1) 0 [] (Nat.zero_le _) oM sM;simpa using this
theorem oX{t:bD}{nx:Int->List Int}(g:GT t nx){f:Int}(hf:0<=f/\f<t.insns.length){R:List Int}{E:Int->Int}(b:BkS nx f R E):∀(d:Nat)(x:Int),x<=d->x∈R->∃h∈HL nx R f,h<=x/\x<=E h
 |0,x,hd,hx=>by
  have h0:=b.rl.rng g hf hx;refine⟨x,(nD b.rl).2 ⟨hx,?_⟩,Int.le_refl _,(b.en x hx).le⟩;cases hj:jn nx R f (x - 1) with
  |false=>exact .inr rfl
  |true=>have:=b.rl.rng g hf (jj.1 hj).1;omega
 |d+1,x,hd,hx=>by
  cases hj:jn nx R f (x - 1) with
  |false=>exact⟨x,(nD b.rl).2 ⟨hx, .inr hj⟩,Int.le_refl _,(b.en x hx).le⟩
  |true=>
   have h1:=(jj.1 hj).1;obtain⟨h,m,h2,h3⟩:=oX g hf b d (x - 1) oM h1;have hn:=(b.en h (nC b.rl m)).no;have:E h≠x - 1:=λe=>by rw[e,hj] at hn;cases hn
   exact⟨h,m,oM,oM⟩
theorem ti{nx:Int->List Int}{f:Int}{R:List Int}{E:Int->Int}(b:BkS nx f R E){h h' x:Int}(m:h∈HL nx R f)(m':h'∈HL nx R f)(h1:h<h')(h2:h'<=x)(h3:x<=E h):False:=by
 have hj:=(b.en h (nC b.rl m)).yes (h' - 1) oM oM;rcases((nD b.rl).1 m').2 with e|e
 have:=(jj.1 hj).2.2.1;omega;rw[hj] at e;cases e
abbrev gL(m:List (Int×List Int))(z:Int):List Int:=Option.getD (ac m z) []
theorem y2(b:aj)(K:List (Int×List Int)->Option (List (Int×List Int)))(hb:b.to<=1000):∀(m:Nat)(a:Int)(mm:List (Int×List Int)),0<=a->a<b.to->b.to - a<=m->∃m',f34_l2 b K m a mm=K m'/\∀z,ac m' z=if a<=z/\z+1<b.to then some [z+1] else ac mm z
 |0,a,mm,h0,h1,h=>oM
 |m+1,a,mm,h0,h1,h=>by
  rw[f34_l2,w64 oM oM];by_cases hlt:a+1<b.to;rw[dcT hlt,cdT];obtain⟨m',h1,h2⟩:=y2 b K hb m (a+1) (ai mm a [a+1]) oM oM oM;refine⟨m',h1,λz=>?_⟩;rw[h2,aF];by_cases e:a=z;subst e;rw[if_neg oM,if_pos rfl,if_pos ⟨Int.le_refl _,hlt⟩];rw[if_neg e];by_cases hz:a+1<=z/\z+1<b.to;rw[if_pos hz,if_pos oM];rw[if_neg hz,if_neg oM];rw[dcF hlt,cdF];exact⟨mm,rfl,λz=>by rw[if_neg oM]⟩
section
variable{t:bD}{nx:Int->List Int}{R:List Int}{E:Int->Int}
theorem tz(hR:RL nx 0 R)(h0:∀z∈R,0<=z):Asc (HL nx R 0):=by unfold HL Asc;rw[List.pairwise_append];refine⟨sM,hR.asc.filter _,λa ha b hb=>?_⟩;rw[List.mem_singleton.1 ha];have h1:=List.mem_filter.1 hb;have h2:=h1.2;unfold hp at h2;simp only[Bool.and_eq_true,Bool.not_eq_true',decide_eq_false_iff_not] at h2;have:=h0 b h1.1;omega
def hdA(H:List Int)(k:Int):Int:=Option.getD (idx H k) 0
theorem tg_nx(g:GT t nx)(b:BkS nx 0 R E)(h0:∀z∈R,0<=z){e:Int}(he:e∈R)(hn:jn nx R 0 e=false):(tg nx (HL nx R 0) e).map (hdA (HL nx R 0))=nx e:=by
 have hH:=tz b.rl h0;have hv:∀j:Nat,∀hj:j<(HL nx R 0).length,hdA (HL nx R 0) (j:Int)=(HL nx R 0)[j]:=λj hj=>by unfold hdA;rw[aZ hj];rfl
 refine eP ?_ (g.asc e) λz=>?_;rw[List.pairwise_map];refine List.Pairwise.imp_of_mem (λ{a c} ha hc hac=>?_) (rU nx (HL nx R 0) e);unfold tg at ha hc;obtain⟨i,hi,rfl⟩:=List.mem_map.1 ha;obtain⟨j,hj,rfl⟩:=List.mem_map.1 hc;have hi':=List.mem_range.1 (List.mem_filter.1 hi).1;have hj':=List.mem_range.1 (List.mem_filter.1 hj).1;rw[hv i hi',hv j hj'];exact List.pairwise_iff_getElem.1 hH i j hi' hj' oM;rw[List.mem_map];unfold tg;constructor;rintro⟨k,hk,rfl⟩;obtain⟨i,hi,rfl⟩:=List.mem_map.1 hk;have h1:=List.mem_filter.1 hi;have hi':=List.mem_range.1 h1.1;rw[hv i hi'];have h2:=h1.2;unfold hB at h2;rw[geG hi'] at h2;exact of_decide_eq_true h2;intro hz;obtain⟨i,hi,rfl⟩:=List.getElem_of_mem (oa b.rl he hn hz);refine⟨(i:Int),List.mem_map.2 ⟨i,List.mem_filter.2 ⟨List.mem_range.2 hi,?_⟩,rfl⟩,hv i hi⟩;unfold hB;rw[geG hi];exact dcT hz
def Cv(E:Int->Int)(H:List Int)(i:Int):Prop:=∃h∈H,h<=i/\i<=E h
theorem y1(g:GT t nx)(hl:0<t.insns.length)(b:BkS nx 0 R E)(h2:∀a,(nx a).length<=2){c:Int}(K:List (Int×List Int)->Option (List (Int×List Int))):∀(m j:Nat)(mm:List (Int×List Int)),j<=(HL nx R 0).length->(HL nx R 0).length<m+j->(∀i,(Cv E ((HL nx R 0).take j) i->gL mm i=nx i)/\(¬Cv E ((HL nx R 0).take j) i->ac mm i=none))->∃m',f34_l1 ((HL nx R 0).map (bk1 nx (HL nx R 0) E),c) K m (j:Int) mm=K m'/\∀i,Cv E (HL nx R 0) i->gL m' i=nx i
 |0,j,_,_,h,_=>oM
 |m+1,j,mm,hj,hm,hI=>by
  have hf:0<=(0:Int)/\(0:Int)<t.insns.length:=oM;have hg:=g.le;have hHl:=p9 g hf b.rl;have h0:∀z∈R,0<=z:=λz hz=>(b.rl.rng g hf hz).1;obtain⟨B,hB⟩:∃F:Nat,F=9223372036854775808:=⟨_,rfl⟩;rw[f34_l1,<-hB];show∃m',(bif decide ((j:Int)<(((HL nx R 0).map (bk1 nx (HL nx R 0) E)).length:Int)) then _ else _)=_/\_;rw[List.length_map];by_cases hlt:j<(HL nx R 0).length;have hm':=List.getElem_mem hlt;have hR':=nC b.rl hm';have hen:=b.en _ hR';have hr:=b.rl.rng g hf hR';have her:=b.rl.rng g hf hen.mem;have hle:=hen.le;have htake:(HL nx R 0).take (j+1)=(HL nx R 0).take j++ [(HL nx R 0)[j]]:=List.take_succ_eq_append_getElem hlt;have hnd:=va b.rl;have hdis:∀i,(HL nx R 0)[j]<=i->i<=E (HL nx R 0)[j]->¬Cv E ((HL nx R 0).take j) i:=λi h3 h4 ⟨h',h5,h6,h7⟩=>by
   have hm2:=List.mem_of_mem_take h5;obtain⟨k,hk,hk2⟩:=List.getElem_of_mem h5;rw[List.getElem_take] at hk2;have hkj:k<j:=by simp at hk;omega
   have:=List.pairwise_iff_getElem.1 (tz b.rl h0) k j oM hlt hkj;rw[hk2] at this;exact ti b hm2 hm' this h3 oM
  rw[ltb hlt,cdT];show∃m',(Option.bind (idx ((HL nx R 0).map (bk1 nx (HL nx R 0) E)) (j:Int)) _)=_/\_;rw[aZ (by simpa using hlt),List.getElem_map,bnS,af];have hyy:∀(K2:List (Int×List Int)->Option (List (Int×List Int))),∃m1,f34_l2 (bk1 nx (HL nx R 0) E (HL nx R 0)[j]) K2 B (bk1 nx (HL nx R 0) E (HL nx R 0)[j]).from_ mm=K2 m1/\∀z,ac m1 z=if(HL nx R 0)[j]<=z/\z<E (HL nx R 0)[j] then some [z+1] else ac mm z:=λK2=>by
   obtain⟨m1,e1,e2⟩:=y2 (bk1 nx (HL nx R 0) E (HL nx R 0)[j]) K2 (show E _+1<=1000 by omega) B (HL nx R 0)[j] mm hr.1 (show _<E _+1 by omega) (show E _+1 - _<=_ by omega);refine⟨m1,e1,λz=>?_⟩;rw[e2];by_cases hz:(HL nx R 0)[j]<=z/\z<E (HL nx R 0)[j];rw[if_pos hz];exact if_pos ⟨hz.1,show z+1<E (HL nx R 0)[j]+1 by omega⟩;rw[if_neg hz];exact if_neg λh'=>hz ⟨h'.1,by have:z+1<E (HL nx R 0)[j]+1:=h'.2;omega⟩
  have hnext:∀(m1 m2:List (Int×List Int)),(∀z,ac m1 z=if(HL nx R 0)[j]<=z/\z<E (HL nx R 0)[j] then some [z+1] else ac mm z)->(∀z,gL m2 z=if z=E (HL nx R 0)[j] then nx z else gL m1 z)->(∀z,z≠E (HL nx R 0)[j]->ac m2 z=ac m1 z)->∃m',f34_l1 ((HL nx R 0).map (bk1 nx (HL nx R 0) E),c) K m ((j+1:Nat):Int) m2=K m'/\∀i,Cv E (HL nx R 0) i->gL m' i=nx i:=λm1 m2 e2 e3 e4=>by
   refine y1 g hl b h2 K m (j+1) m2 oM oM λi=>⟨λ⟨h',h5,h6,h7⟩=>?_,λhno=>?_⟩;rw[e3];by_cases hie:i=E (HL nx R 0)[j];rw[if_pos hie];rw[if_neg hie];unfold gL;rw[e2];by_cases hz:(HL nx R 0)[j]<=i/\i<E (HL nx R 0)[j];rw[if_pos hz];exact(jj.1 (hen.yes i hz.1 hz.2)).2.1.symm;rw[if_neg hz];refine(hI i).1 ?_;rw[htake] at h5;rcases List.mem_append.1 h5 with h5|h5
   exact⟨h',h5,h6,h7⟩;rw[List.mem_singleton.1 h5] at h6 h7;omega;have hie:i≠E (HL nx R 0)[j]:=λe=>hno ⟨(HL nx R 0)[j],by rw[htake];exact List.mem_append_right _ (List.mem_singleton.2 rfl),oM,oM⟩;rw[e4 i hie,e2];have hz:¬((HL nx R 0)[j]<=i/\i<E (HL nx R 0)[j]):=λh'=>hno ⟨(HL nx R 0)[j],by rw[htake];exact List.mem_append_right _ (List.mem_singleton.2 rfl),oM,oM⟩;rw[if_neg hz];exact(hI i).2 λ⟨h',h5,h6,h7⟩=>hno ⟨h',by rw[htake];exact List.mem_append_left _ h5,h6,h7⟩
  obtain⟨m1,e1,e2⟩:=hyy _;rw[e1];have hne:ac m1 (E (HL nx R 0)[j])=none:=by rw[e2,if_neg oM];exact(hI _).2 (hdis _ hle (Int.le_refl _))
  have hwt:i64.wrap ((bk1 nx (HL nx R 0) E (HL nx R 0)[j]).to - 1)=E (HL nx R 0)[j]:=by show i64.wrap (E _+1 - 1)=_;rw[w64 oM oM];omega
  have htg:=tg_nx g b h0 hen.mem hen.no;have htl:(tg nx (HL nx R 0) (E (HL nx R 0)[j])).length<=2:=by have:=h2 (E (HL nx R 0)[j]);rw[<-htg,List.length_map] at this;exact this
  have hidx:∀k∈tg nx (HL nx R 0) (E (HL nx R 0)[j]),∃bl:aj,idx ((HL nx R 0).map (bk1 nx (HL nx R 0) E)) k=some bl/\bl.from_=hdA (HL nx R 0) k:=λk hk=>by
   unfold tg at hk;obtain⟨i,hi,rfl⟩:=List.mem_map.1 hk;have hi':=List.mem_range.1 (List.mem_filter.1 hi).1;refine⟨bk1 nx (HL nx R 0) E (HL nx R 0)[i],by rw[aZ (by simpa using hi'),List.getElem_map],?_⟩;unfold hdA;rw[aZ hi'];rfl
  have hput:∀L,L=nx (E (HL nx R 0)[j])->∃m',f34_l1 ((HL nx R 0).map (bk1 nx (HL nx R 0) E),c) K m ((j+1:Nat):Int) (ai m1 (E (HL nx R 0)[j]) L)=K m'/\∀i,Cv E (HL nx R 0) i->gL m' i=nx i:=λL hL=>hnext m1 _ e2 (λz=>by
    unfold gL;rw[aF];by_cases e:z=E (HL nx R 0)[j];rw[if_pos e,if_pos e.symm,hL,e];rfl;rw[if_neg e,if_neg λh'=>e h'.symm]) λz hz=>by rw[aF,if_neg λh'=>hz h'.symm]
  have hbn:(bk1 nx (HL nx R 0) E (HL nx R 0)[j]).next=tg nx (HL nx R 0) (E (HL nx R 0)[j]):=rfl;rw[hwt,hbn,w1n (i:=j) oM];generalize htgv:tg nx (HL nx R 0) (E (HL nx R 0)[j])=T at htg htl hidx;match T,htl with
  |[],_=>
   rw[dcF sM,cdF];exact hnext m1 m1 e2 (λz=>by
    by_cases e:z=E (HL nx R 0)[j];rw[if_pos e,e,<-htg];unfold gL;rw[hne];rfl;rw[if_neg e]) λz _=>rfl
  |[k1],_=>obtain⟨b1,f1,f2⟩:=hidx k1 sM;rw[dcT sM,cdT,show idx [k1] 0=some k1 from rfl,bnS,hne,aq _ (show Option.isNone (none:Option (List Int))=true from rfl),f1,bnS,aq _ (dM sM)];show∃m',(bif decide ((1:Int)<(List.length [k1]:Int)) then _ else _)=_/\_;rw[dcF sM,cdF,List.nil_append,f2];exact hput _ htg
  |[k1,k2],_=>obtain⟨b1,f1,f2⟩:=hidx k1 sM;obtain⟨b2,f3,f4⟩:=hidx k2 sM;rw[dcT sM,cdT,show idx [k1,k2] 0=some k1 from rfl,bnS,hne,aq _ (show Option.isNone (none:Option (List Int))=true from rfl),f1,bnS,aq _ (dM sM)];show∃m',(bif decide ((1:Int)<(List.length [k1,k2]:Int)) then Option.bind (idx [k1,k2] 1) _ else _)=_/\_;rw[dcT sM,cdT,show idx [k1,k2] 1=some k2 from rfl,bnS,f3,bnS,aq _ (dM sM)];show∃m',(bif decide ((2:Int)<(List.length [k1,k2]:Int)) then _ else _)=_/\_;rw[dcF sM,cdF,List.nil_append,f2,f4];exact hput _ htg
  rw[ltf hlt,cdF];refine⟨mm,rfl,λi hi=>?_⟩;have:=(hI i).1;rw[List.take_of_length_le oM] at this;exact this hi
theorem qe(g:GT t nx)(hl:0<t.insns.length)(h11:f11 t=some true)(h2:∀a,(nx a).length<=2)(hch:∀i:Nat,i+1<t.insns.length->((i+1:Nat):Int)∈nx (i:Int)):∃W,f34 t 0=some W/\∀i:Nat,i<t.insns.length->gL W (i:Int)=nx (i:Int):=by
 have hf:0<=(0:Int)/\(0:Int)<t.insns.length:=oM;have hg:=g.le;obtain⟨R,E,b,hb⟩:=rx g hf h11;have hall:∀i:Nat,i<t.insns.length->Rc nx 0 (i:Int):=λi=>by
  induction i with
  |zero=>intro _;exact .base
  |succ i ih=>intro h;exact .step (ih oM) (hch i h)
 have hHl:=p9 g hf b.rl;obtain⟨W,e1,e2⟩:=y1 g hl b h2 (c:=0) (λm70=>some m70) (Int.toNat ((((HL nx R 0).map (bk1 nx (HL nx R 0) E)).length:Int) - 0)+1) 0 [] (Nat.zero_le _) (by rw[List.length_map];omega) (λi=>⟨λ⟨h',h5,_⟩=>(by cases h5),λ_=>rfl⟩);refine⟨W,?_,λi hi=>?_⟩;unfold f34;rw[hb,bnS,af];exact e1;have hR:=(b.rl.mem (i:Int)).2 (hall i hi);obtain⟨h,m,h3,h4⟩:=oX g hf b i (i:Int) (Int.le_refl _) hR;exact e2 _ ⟨h,m,h3,h4⟩
end
section
variable{is:List aM}{lp:List Loop}{x:aM}{i:Nat}
theorem hnd0(is:List aM)(lp:List Loop)(a:Int)(b:Bool):f128 (lT is lp) a b=some (0,false):=by cases b<;>rfl
theorem jl{α:Type}(o:Option α):au true o=o:=rfl
theorem f75_asc{L:List Int}(h:Asc L):f75 L=some L:=by unfold f75;have:=rX h;rw[List.mergeSort_of_pairwise (List.Pairwise.imp (λh=>dcT oM) h)] at this;rw[this]
theorem f74_to{M L:List Int}(hl:M.length<=1000)(hn:M.Nodup)(h:Asc L)(hm:∀z,z∈M↔z∈L):f74 M=some L:=by unfold f74;rw[aq _ (dcT oM)];exact congrArg some (eP (ij hn) h λz=>by rw[List.mem_mergeSort,hm])
theorem gg(hx:idx is (i:Int)=some x)(hi:i+1<is.length)(hl:is.length<=1000)(ho:x.op=1\/x.op=2\/x.op=11\/x.op=27\/x.op=53\/x.op=55):f107 (lT is lp) (i:Int)=some [((i+1:Nat):Int)]:=by have e1:f74 [((i+1:Nat):Int)]=some [((i+1:Nat):Int)]:=f74_to sM sM sM λz=>Iff.rfl;have e2:f75 [((i+1:Nat):Int)]=some [((i+1:Nat):Int)]:=f75_asc sM;have ha:aO 8 ([]:List Int) [((i+1:Nat):Int)]=true:=dM sM;unfold f107;rw[show(lT is lp).insns=is from rfl,hx,bnS,w1n oM,dcT (show((i+1:Nat):Int)<(is.length:Int) by omega)];generalize((i+1:Nat):Int)=v at e1 e2 ha;rcases ho with h|h|h|h|h|h<;>simp[af,h,ha,jl,hnd0,f129,e1,e2]
theorem jf(hx:idx is (i:Int)=some x)(ho:x.op=57):f107 (lT is lp) (i:Int)=some []:=by have e1:f74 []=some []:=f74_to sM sM sM λz=>Iff.rfl;have e2:f75 []=some []:=f75_asc sM;unfold f107;rw[show(lT is lp).insns=is from rfl,hx,bnS];simp[af,ho,f129,e1,e2]
theorem vB(hx:idx is (i:Int)=some x)(ho:x.op=29):f107 (lT is lp) (i:Int)=some [x.to]:=by have e1:f74 [x.to]=some [x.to]:=f74_to sM sM sM λz=>Iff.rfl;have e2:f75 [x.to]=some [x.to]:=f75_asc sM;have ha:aO 8 ([]:List Int) [x.to]=true:=dM sM;unfold f107;rw[show(lT is lp).insns=is from rfl,hx,bnS];generalize x.to=v at e1 e2 ha;simp[af,ho,ha,jl,f129,e1,e2]
theorem vC{L:List Int}(hx:idx is (i:Int)=some x)(hi:i+1<is.length)(hl:is.length<=1000)(ho:x.op=30\/x.op=31)(hne:((i+1:Nat):Int)≠x.to)(h:Asc L)(hm:∀z,z∈L↔z=((i+1:Nat):Int)\/z=x.to):f107 (lT is lp) (i:Int)=some L:=by
 have e1:f74 ([((i+1:Nat):Int),x.to])=some L:=f74_to sM (by simpa using hne) h λz=>by rw[hm];simp
 have e2:f75 L=some L:=f75_asc h;have ha:aO 8 ([]:List Int) [((i+1:Nat):Int)]=true:=dM sM;have hb:aO 8 [((i+1:Nat):Int)] [x.to]=true:=dM sM;unfold f107;rw[show(lT is lp).insns=is from rfl,hx,bnS,w1n oM,dcT (show((i+1:Nat):Int)<(is.length:Int) by omega)];clear hm hne;generalize((i+1:Nat):Int)=v at e1 ha hb;generalize x.to=w at e1 hb;rcases ho with h|h<;>simp[af,h,ha,hb,jl,f129,e1,e2]
end
abbrev mvI:aM:=⟨2,0,0,0,0,0,0⟩
abbrev enI:aM:=⟨57,0,0,0,0,0,0⟩
abbrev jnI(z:Int):aM:=⟨31,0,0,0,0,0,z⟩
def Jx:Option Nat->aM
 |none=>mvI
 |some z=>jnI z
def fwn:List Lv->Nat
 |[]=>0
 |l::r=>l.b+mx r+fwn r
def bkI(o:Nat):List Lv->List aM
 |[]=> []
 |l::r=>bkI (o+l.b+mx r) r++(List.replicate l.a mvI++ [jnI o])
def lps(o:Nat):List Lv->List Loop
 |[]=> []
 |l::r=>lps (o+l.b+mx r) r++ [⟨(o:Int),((o+ln (l::r) - 1:Nat):Int),(l.B:Int)⟩]
def hdl(o:Nat):List Lv->List Int
 |[]=> []
 |l::r=>(o:Int)::hdl (o+l.b+mx r) r
theorem ia:∀(L:List Lv)(o:Nat),(bkI o L).length+fwn L=ln L
 |[],_=>rfl
 |l::r,o=>by
  have:=ia r (o+l.b+mx r);have hl:=cw l r;show(bkI (o+l.b+mx r) r++(List.replicate l.a mvI++ [jnI o])).length+(l.b+mx r+fwn r)=_;simp only[List.length_append,List.length_replicate,List.length_singleton];omega
theorem ob:∀(L:List Lv)(o k:Nat),k<ln L->(List.replicate (fwn L) mvI++bkI o L)[k]? =some (Jx (nh o L (o+k)))
 |[],_,k,h=>by have:ln []=0:=rfl;omega
 |l::r,o,k,h=>by
  have hl:=cw l r;have hb:=ia r (o+l.b+mx r);have e:List.replicate (fwn (l::r)) mvI++bkI o (l::r)=List.replicate (l.b+mx r) mvI++((List.replicate (fwn r) mvI++bkI (o+l.b+mx r) r)++(List.replicate l.a mvI++ [jnI o])):=by show List.replicate (l.b+mx r+fwn r) mvI++(bkI (o+l.b+mx r) r++(List.replicate l.a mvI++ [jnI o]))=_;rw[<-List.replicate_append_replicate];simp only[List.append_assoc]
  have hin:(List.replicate (fwn r) mvI++bkI (o+l.b+mx r) r).length=ln r:=by rw[List.length_append,List.length_replicate];omega
  have hno:¬(o+l.b+mx r<=o+k/\o+k<o+l.b+mx r+ln r)->nh (o+l.b+mx r) r (o+k)=none:=λhh=>by
   cases hz:nh (o+l.b+mx r) r (o+k) with
   |none=>rfl
   |some z=>have:=cV _ _ _ _ hz;omega
  rw[e];by_cases h1:k<l.b+mx r;rw[List.getElem?_append_left (by rw[List.length_replicate];exact h1),List.getElem?_replicate,if_pos h1,c5,if_neg oM,hno oM];rfl;rw[List.getElem?_append_right (by rw[List.length_replicate];omega),List.length_replicate];by_cases h2:k<l.b+mx r+ln r;rw[List.getElem?_append_left (by rw[hin];omega),ob r (o+l.b+mx r) (k - (l.b+mx r)) oM,c5,if_neg oM,show o+l.b+mx r+(k - (l.b+mx r))=o+k by omega];rw[List.getElem?_append_right (by rw[hin];omega),hin];by_cases h3:k<l.b+mx r+ln r+l.a;rw[List.getElem?_append_left (by rw[List.length_replicate];omega),List.getElem?_replicate,if_pos oM,c5,if_neg oM,hno oM];rfl;rw[List.getElem?_append_right (by rw[List.length_replicate];omega),List.length_replicate,show k - (l.b+mx r) - ln r - l.a=0 by omega,c5,if_pos oM];rfl
theorem jY:∀(L:List Lv)(o:Nat)(l:Loop),l∈lps o L->∃y z:Nat,l=⟨(z:Int),(y:Int),nb o L z⟩/\nh o L y=some z
 |[],_,l,h=>by cases h
 |v::r,o,l,h=>by
  have hl:=cw v r;rcases List.mem_append.1 h with h|h
  obtain⟨y,z,h1,h2⟩:=jY r _ l h;have h3:=cV _ _ _ _ h2;have h4:nh o (v::r) y=some z:=by rw[c5,if_neg oM];exact h2
  refine⟨y,z,?_,h4⟩;rcases fU h4 with⟨k1,k2⟩|⟨k1,k2,k3⟩
  omega;rw[h1,fC,if_neg oM];rw[List.mem_singleton.1 h];exact⟨o+ln (v::r) - 1,o,by rw[fC,if_pos rfl],by rw[c5,if_pos oM]⟩
theorem qw:∀(L:List Lv)(o y z:Nat),nh o L y=some z->∃l∈lps o L,l.back=(y:Int)/\l.head=(z:Int)
 |[],_,_,_,h=>by cases h
 |v::r,o,y,z,h=>by
  have hl:=cw v r;rcases fU h with⟨k1,k2⟩|⟨k1,k2,k3⟩
  exact⟨_,List.mem_append_right _ (List.mem_singleton.2 rfl),by show((o+ln (v::r) - 1:Nat):Int)=_;omega,by show(o:Int)=_;omega⟩;obtain⟨l,h1,h2⟩:=qw r _ y z k2;exact⟨l,List.mem_append_left _ h1,h2⟩
theorem kQ:∀(L:List Lv)(o:Nat),(lps o L).Pairwise (λp q=>p.back<q.back)/\(lps o L).length=L.length
 |[],_=>⟨List.Pairwise.nil,rfl⟩
 |v::r,o=>by
  have hl:=cw v r;have ih:=kQ r (o+v.b+mx r);refine⟨List.pairwise_append.2 ⟨ih.1,sM,λp hp q hq=>?_⟩,by show(lps (o+v.b+mx r) r++ [_]).length=_;rw[List.length_append,ih.2];rfl⟩;obtain⟨y,z,h1,h2⟩:=jY r _ p hp;have:=cV _ _ _ _ h2;rw[List.mem_singleton.1 hq,h1];show(y:Int)<((o+ln (v::r) - 1:Nat):Int);omega
def isN(L:List Lv):List aM:=(List.replicate (fwn L) mvI++bkI 0 L)++ [enI]
theorem eL(L:List Lv):(isN L).length=ln L+1:=by have:=ia L 0;unfold isN;simp only[List.length_append,List.length_replicate,List.length_singleton];omega
theorem j5{L:List Lv}{i:Nat}(h:i<ln L):idx (isN L) (i:Int)=some (Jx (nh 0 L i)):=by have:=ia L 0;rw[j7];unfold isN;rw[List.getElem?_append_left (by rw[List.length_append,List.length_replicate];omega),ob L 0 i h,Nat.zero_add]
theorem j6(L:List Lv):idx (isN L) (ln L:Int)=some enI:=by have:=ia L 0;rw[j7];unfold isN;rw[List.getElem?_append_right (by rw[List.length_append,List.length_replicate];omega),List.length_append,List.length_replicate,show ln L - (fwn L+(bkI 0 L).length)=0 by omega];rfl
theorem vE(L:List Lv):nh 0 L (ln L)=none:=by
 cases hz:nh 0 L (ln L) with
 |none=>rfl
 |some z=>have:=cV _ _ _ _ hz;omega
theorem vI:f64 mvI=some true:=by decide+kernel
theorem vK:f64 enI=some true:=by decide+kernel
theorem vJ:∀z:Fin 100,f64 (jnI (z.val:Int))=some true:=by decide+kernel
theorem ug{L:List Lv}{lp:List Loop}(hL:Nok L){i:Nat}(hi:i<ln L+1):∃x,idx (isN L) (i:Int)=some x/\f30 (de.mk (lT (isN L) lp)) x=some true:=by
 have hln:=hL.ln;by_cases h:i<ln L;refine⟨_,j5 h,?_⟩;cases hz:nh 0 L i with
 |none=>show f30 _ mvI=_;unfold f30;rw[vI];simp[af]
 |some z=>
  have hr:=cV _ _ _ _ hz;show f30 _ (jnI (z:Int))=_;unfold f30;rw[show f64 (jnI (z:Int))=some true from vJ ⟨z,oM⟩];have hx:f52 (de.mk (lT (isN L) lp)) (z:Int)=true:=by unfold f52;show(decide ((z:Int)>=0)&&decide ((z:Int)<((isN L).length:Int)))=true;rw[eL,dcT oM,dcT oM];rfl
  simp[af,hx]
 have:i=ln L:=oM;subst this;refine⟨_,j6 L,?_⟩;unfold f30;rw[vK];simp[af]
theorem oO{L:List Lv}(hL:Nok L){v:de}(hv:v=de.mk (lT (isN L) (lps 0 L)))(K:List (Int×Bool)->Option Bool):∀(m i:Nat)(mm:List (Int×Bool)),i<=(lps 0 L).length->(lps 0 L).length<m+i->(∀l∈(lps 0 L).drop i,Option.getD (ac mm l.back) false=false)->∃m',f26_l1 v K m (i:Int) mm=K m'
 |0,i,_,_,h,_=>oM
 |m+1,i,mm,hi,hm,hs=>by
  have hln:=hL.ln;have hlt2:=kQ L 0;have hl5:=hL.len;rw[f26_l1,show v.text.loops=lps 0 L by rw[hv],show v.text.insns=isN L by rw[hv]];by_cases hlt:i<(lps 0 L).length;obtain⟨y,z,h1,h2⟩:=jY L 0 _ (List.getElem_mem hlt);have hr:=cV _ _ _ _ h2;have hb:=qs L 0 z hL.lv;have hseen:=hs _ (by rw[List.drop_eq_getElem_cons hlt];exact List.mem_cons_self);have hx:f52 v (y:Int)=true:=by unfold f52;rw[hv];show(decide ((y:Int)>=0)&&decide ((y:Int)<((isN L).length:Int)))=true;rw[eL,dcT oM,dcT oM];rfl
  rw[h1] at hseen;have hseen':Option.getD (ac mm (y:Int)) false=false:=hseen;have h61:f61 (jnI (z:Int)) (z:Int)=true:=by unfold f61;simp
  obtain⟨m',h3⟩:=oO hL hv K m (i+1) (ai mm (y:Int) true) oM oM (λl hl=>by
   rw[aF,if_neg,hs l (by rw[List.drop_eq_getElem_cons hlt];exact List.mem_cons_of_mem _ hl)];obtain⟨k,hk,rfl⟩:=List.getElem_of_mem hl;rw[List.getElem_drop];have hk':i+1+k<(lps 0 L).length:=by rw[List.length_drop] at hk;omega
   have:=List.pairwise_iff_getElem.1 hlt2.1 i (i+1+k) hlt hk' oM;rw[h1] at this;have this':(y:Int)<(lps 0 L)[i+1+k].back:=this;omega)
  rw[ltb hlt,cdT,aZ hlt,bnS,h1];refine⟨m',Eq.trans ?_ h3⟩;show(Option.bind (bif ((((decide ((z:Int)<0))||(decide ((z:Int)>(y:Int))))||(!(f52 v (y:Int))))||(Option.getD (ac mm (y:Int)) false)) then some true else(Option.bind (idx (isN L) (y:Int)) λx82=>some (!(f61 x82 (z:Int))))) λb81=>(bif ((b81||(decide (nb 0 L z<0)))||(decide (nb 0 L z>2147483647))) then some false else(f26_l1 v K m (i64.wrap ((i:Int)+1)) (ai mm (y:Int) true))))=_;rw[dcF oM,dcF oM,hx,hseen',j5 oM,h2];show(bif ((!f61 (jnI (z:Int)) (z:Int)||decide (nb 0 L z<0))||decide (nb 0 L z>2147483647)) then _ else _)=_;rw[h61,dcF oM,dcF oM,w1n oM];rfl;rw[ltf hlt,cdF];exact⟨mm,rfl⟩
theorem tq{L:List Lv}(hL:Nok L){lp:List Loop}(k104:Int->Option Bool)(k105:Unit->Option Bool):∀(m i:Nat),i<=ln L+1->ln L+1<m+i->f11e_l1 (isN L) lp k104 k105 m (i:Int)=k105 ()
 |0,i,_,h=>oM
 |m+1,i,hi,hm=>by
  have hln:=hL.ln;rw[f11e_l1,eL];by_cases hlt:i<ln L+1;obtain⟨x,h1,h2⟩:=ug (lp:=lp) hL hlt;rw[ltb hlt,cdT,h1,bnS,af,h2,bnS,w1n oM];exact tq hL k104 k105 m (i+1) oM oM;rw[ltf hlt,cdF]
theorem sy{L:List Lv}(hL:Nok L):f11 (lT (isN L) (lps 0 L))=some true:=by
 have hln:=hL.ln;have hll:=(kQ L 0).2;have hl5:=hL.len;unfold f11;rw[aq _ (show ud (lT (isN L) (lps 0 L))=true from rfl)];show f11e (isN L) (lps 0 L)=_;unfold f11e;rw[eL,dcF oM,dcF oM,Bool.or_self,cdF,w64 oM oM,show((ln L+1:Nat):Int) - 1=(ln L:Int) by omega,j6,bnS];have h52:f52 (de.mk (lT (isN L) (lps 0 L))) 0=true:=by unfold f52;show(decide ((0:Int)>=0)&&decide ((0:Int)<((isN L).length:Int)))=true;rw[eL,dcT oM,dcT oM];rfl
 have h26:f26 (de.mk (lT (isN L) (lps 0 L)))=some true:=by unfold f26;rw[show(de.mk (lT (isN L) (lps 0 L))).text.loops=lps 0 L from rfl,dcF oM,cdF,af];obtain⟨m',h1⟩:=oO hL rfl (λ_=>some true) (Int.toNat (((lps 0 L).length:Int) - 0)+1) 0 [] (Nat.zero_le _) oM (λ_ _=>rfl);exact h1
 have hall:=λk104 k105=>tq hL (lp:=lps 0 L) k104 k105 (ln L+1+1) 0 (Nat.zero_le _) oM;rw[show((0:Nat):Int)=0 from rfl] at hall;simp[af,h52,h26,hall]
def nxN(L:List Lv)(a:Int):List Int:=if 0<=a/\a<((ln L+1:Nat):Int) then Nx (ln L+1) (nh 0 L) a.toNat else[]
theorem m4{L:List Lv}{i:Nat}(h:i<ln L+1):nxN L (i:Int)=Nx (ln L+1) (nh 0 L) i:=by unfold nxN;rw[if_pos oM,Int.toNat_natCast]
theorem gt_ok{L:List Lv}(hL:Nok L)(lp:List Loop):GT (lT (isN L) lp) (nxN L):=by
 have hln:=hL.ln;have g:=nu hln;have hlen:=eL L;refine⟨λa h0 h1=>?_,λa z hz=>?_,λa=>?_,by show(isN L).length<=100;omega⟩;obtain⟨i,rfl⟩:=Int.eq_ofNat_of_zero_le h0;have h1':(i:Int)<((isN L).length:Int):=h1;have hi:i<ln L+1:=oM;rw[m4 hi];by_cases he:i<ln L;have hx:=j5 he;cases hz:nh 0 L i with
 |none=>rw[hz] at hx;rw[gg hx oM oM (.inr (.inl rfl))];unfold Nx;rw[hz,if_pos oM];rfl
 |some z=>
  rw[hz] at hx;have hr:=cV _ _ _ _ hz;have hn:Nx (ln L+1) (nh 0 L) i=[(z:Int),((i+1:Nat):Int)]:=by unfold Nx;rw[hz,if_pos oM];rfl
  rw[hn];exact vC hx oM oM (.inr rfl) (by show((i+1:Nat):Int)≠(z:Int);omega) (by simp;omega) λw=>by
   show _↔_\/w=(z:Int);simp only[List.mem_cons,List.not_mem_nil,or_false];exact Or.comm
 have:i=ln L:=oM;subst this;rw[jf (j6 L) rfl];unfold Nx;rw[vE,if_neg oM];rfl;unfold nxN at hz;split at hz;obtain⟨y,rfl,h2,_⟩:=jx g hz;show _/\_<((isN L).length:Int);omega;cases hz;unfold nxN;split;exact nB g _;simp
theorem kb:f12 f7=some true:=by decide+kernel
theorem cc_ok{L:List Lv}{i:Nat}(h:i<ln L+1):∃x,idx (isN L) (i:Int)=some x/\0<=x.op/\x.op<58/\f7 x.op.toNat=cc L i:=by
 by_cases he:i<ln L;refine⟨_,j5 he,?_⟩;unfold cc;rw[if_pos he];cases nh 0 L i with
 |none=>exact⟨by decide,by decide,by decide⟩
 |some z=>exact⟨show(0:Int)<=31 by decide,show(31:Int)<58 by decide,show f7 (Int.toNat 31)=1 by decide⟩
 have:i=ln L:=oM;subst this;refine⟨_,j6 L,by decide,by decide,?_⟩;unfold cc;rw[if_neg oM];decide
theorem rK{L:List Lv}(hL:Nok L):f6 (lT (isN L) (lps 0 L)) f7 0 []=some (cs L+10,0):=by
 have hln:=hL.ln;have hlen:=eL L;have g:=nu hln;have hl5:=hL.len;have hll:=(kQ L 0).2;obtain⟨W,h1,h2⟩:=qe (gt_ok hL (lps 0 L)) (by show 0<(isN L).length;omega) (sy hL) (λa=>by
  unfold nxN;split;exact jy _ _ _;simp) (λi hi=>by
  have hi':i+1<(isN L).length:=hi;rw[m4 oM,gv];exact .inr ⟨oM,rfl⟩)
 obtain⟨B,hB⟩:∃F:Nat,F=9223372036854775808:=⟨_,rfl⟩;rw[f6_open (sy hL) kb (by show 0<=(0:Int)/\(0:Int)<((isN L).length:Int);omega) sM (λx hx=>by cases hx) h1 hB];obtain⟨m',h3⟩:=grp g (stops:=[]) sM (W:=W) (λi hi=>by
  rw[if_neg sM];have:=h2 i (by show i<(isN L).length;omega);rw[m4 hi] at this;exact this) (λa _ b=>f6r (lT (isN L) (lps 0 L)) f7 a b) B 0 (ai [] 0 0) (Nat.zero_le _) oM (λz=>by
   rw[aF];by_cases e:z=0;subst e;rw[show((0:Nat):Int)=0 from rfl,if_pos rfl,if_pos oM];rw[if_neg oM,if_neg oM];rfl)
 rw[show min (ln L+1) (0+1)=1 by omega] at h3;refine Eq.trans h3 ?_;refine pS hL (λi hi=>cc_ok hi) (by show(lps 0 L).length<=1000;omega) (λl hl a ha=>?_) λy a h=>qw L 0 y a h;obtain⟨y,z,h4,_⟩:=jY L 0 l hl;rw[h4] at ha⊢;have ha':(z:Int)=(a:Int):=ha;rw[show a=z by omega]
def m7(x:Int):Int:=i64.wrap (IntKind.u8.wrap (BitVec.ofInt IntKind.u8.bits x&&&BitVec.ofInt IntKind.u8.bits 7).toNat)
theorem vM:∀x:Fin 256,0<=m7 (x.val:Int)/\m7 (x.val:Int)<=7:=by decide+kernel
theorem oL{x:Int}(h:0<=x/\x<=255):0<=m7 x/\m7 x<=7:=by obtain⟨k,rfl⟩:=Int.eq_ofNat_of_zero_le h.1;exact vM ⟨k,oM⟩
def lv(x:cK):Lv:=⟨(m7 x.bef).toNat,(m7 x.aft).toNat,x.bnd.toNat⟩
structure LvOk(l:List cK):Prop where
 len:l.length<=5
 b:∀x∈l,(0<=x.bef/\x.bef<=255)/\(0<=x.aft/\x.aft<=255)/\(0<=x.bnd/\x.bnd<=255)
theorem LvOk.nok{l:List cK}(h:LvOk l):Nok (l.map lv):=⟨by rw[List.length_map];exact h.len,λv hv=>by
 obtain⟨x,hx,rfl⟩:=List.mem_map.1 hv;have h1:=h.b x hx;have h2:=oL h1.1;have h3:=oL h1.2.1;show(m7 x.bef).toNat<=7/\(m7 x.aft).toNat<=7/\x.bnd.toNat<=255;omega⟩
theorem o9{L M:List aM}(h:L.length+M.length<=1000000):aO 56 L M=true:=eQ dC oM
theorem p2{l0:List cK}{iq:Int}{x:cK}(hx:idx l0 iq=some x){b:Nat}(hb:m7 x.bef=(b:Int))(hb7:b<=7)(K:List aM->Option Bool):∀(m j:Nat)(lw:List aM),j<=b->b<m+j->lw.length<=1000+j->f3_l2 l0 iq K m (j:Int) lw=K (lw++List.replicate (b - j) mvI)
 |0,j,_,_,h,_=>oM
 |m+1,j,lw,hj,hm,hl=>by
  rw[f3_l2,hx,bnS];show(bif decide ((j:Int)<m7 x.bef) then _ else _)=_;rw[hb];by_cases hlt:j<b;rw[ltb hlt,cdT,aq _ (o9 (by simp;omega)),w1n oM,p2 hx hb hb7 K m (j+1) _ oM oM (by simp;omega),show b - j=(b - (j+1))+1 by omega,List.replicate_succ,List.append_assoc];rfl;rw[ltf hlt,cdF,show b - j=0 by omega];simp
theorem p4{l0:List cK}{iq:Int}{x:cK}(hx:idx l0 iq=some x){b:Nat}(hb:m7 x.aft=(b:Int))(hb7:b<=7)(K:List aM->Option Bool):∀(m j:Nat)(lw:List aM),j<=b->b<m+j->lw.length<=1000+j->f3_l4 l0 iq K m (j:Int) lw=K (lw++List.replicate (b - j) mvI)
 |0,j,_,_,h,_=>oM
 |m+1,j,lw,hj,hm,hl=>by
  rw[f3_l4,hx,bnS];show(bif decide ((j:Int)<m7 x.aft) then _ else _)=_;rw[hb];by_cases hlt:j<b;rw[ltb hlt,cdT,aq _ (o9 (by simp;omega)),w1n oM,p4 hx hb hb7 K m (j+1) _ oM oM (by simp;omega),show b - j=(b - (j+1))+1 by omega,List.replicate_succ,List.append_assoc];rfl;rw[ltf hlt,cdF,show b - j=0 by omega];simp
theorem vG(r:List cK):mx (r.map lv)=if r=[] then 0 else 1:=by cases r<;>rfl
theorem p1{l0:List cK}(h0:LvOk l0)(K:List Int->List aM->Option Bool):∀(r:List cK)(m i o:Nat)(hs:List Int),l0.drop i=r->i<=l0.length->r.length<m->hs.length<=i->o<=8*i->f3_l1 l0 K m (i:Int) hs (List.replicate o mvI)=K (hs++hdl o (r.map lv)) (List.replicate (o+fwn (r.map lv)) mvI)
 |r,0,i,o,hs,_,_,h,_,_=>oM
 |[],m+1,i,o,hs,hr,hi,_,_,_=>by
  have:l0.length<=i:=by have:=congrArg List.length hr;rw[List.length_drop] at this;have e:([]:List cK).length=0:=rfl;omega
  rw[f3_l1,ltf oM,cdF];show K hs (List.replicate o mvI)=K (hs++ []) (List.replicate (o+0) mvI);rw[List.append_nil,Nat.add_zero]
 |x::r,m+1,i,o,hs,hr,hi,hm,hhs,ho=>by
  have hl5:=h0.len;have hlt:i<l0.length:=by have:=congrArg List.length hr;rw[List.length_drop,List.length_cons] at this;omega
  rw[List.drop_eq_getElem_cons hlt] at hr;have hx:l0[i]=x:=(List.cons.inj hr).1;have hr':l0.drop (i+1)=r:=(List.cons.inj hr).2;have hxm:x∈l0:=by rw[<-hx];exact List.getElem_mem hlt
  have hb:=(h0.b x hxm);have h7:=oL hb.1;have hidx:idx l0 (i:Int)=some x:=by rw[aZ hlt,hx]
  obtain⟨B,hB⟩:∃F:Nat,F=9223372036854775808:=⟨_,rfl⟩;have hmx:=vG r;have hp2:=λK lw (hl:lw.length<=1000+0)=>p2 hidx (b:=(m7 x.bef).toNat) oM oM K B 0 lw (Nat.zero_le _) oM hl;rw[show((0:Nat):Int)=0 from rfl] at hp2;rw[f3_l1,ltb hlt,cdT,af,aq _ (dM (by simp;omega)),af,<-hB,hp2 _ _ (by simp;omega),w1n oM,List.replicate_append_replicate,Nat.sub_zero,List.length_replicate];have hrl:r.length=l0.length - (i+1):=by rw[<-hr',List.length_drop]
  have fin:∀o',o'=o+(lv x).b+mx (r.map lv)->f3_l1 l0 K m ((i+1:Nat):Int) (hs++ [(o:Int)]) (List.replicate o' mvI)=K (hs++hdl o ((x::r).map lv)) (List.replicate (o+fwn ((x::r).map lv)) mvI):=λo' ho'=>by
   have h8:mx (r.map lv)<=1:=by rw[hmx];split<;>omega
   have h9:(lv x).b<=7:=by show(m7 x.bef).toNat<=7;omega
   rw[p1 h0 K r m (i+1) o' _ hr' oM (by simp at hm;omega) (by simp;omega) oM,ho',List.append_assoc];show K (hs++([(o:Int)]++hdl (o+(lv x).b+mx (r.map lv)) (r.map lv))) (List.replicate (o+(lv x).b+mx (r.map lv)+fwn (r.map lv)) mvI)=K (hs++((o:Int)::hdl (o+(lv x).b+mx (r.map lv)) (r.map lv))) (List.replicate (o+((lv x).b+mx (r.map lv)+fwn (r.map lv))) mvI);rw[show o+(lv x).b+mx (r.map lv)+fwn (r.map lv)=o+((lv x).b+mx (r.map lv)+fwn (r.map lv)) by omega];rfl
  by_cases h1:i+1<l0.length;rw[ltb h1,cdT,aq _ (o9 (by simp;omega))];rw[show List.replicate (o+(m7 x.bef).toNat) mvI++ [mvI]=List.replicate (o+(m7 x.bef).toNat+1) mvI by rw[List.replicate_succ']];refine fin _ ?_;rw[hmx,if_neg (λe=>by rw[e] at hrl;simp at hrl;omega)];rfl;rw[ltf h1,cdF];refine fin _ ?_;rw[hmx,if_pos (List.eq_nil_of_length_eq_zero oM)];rfl
def off:List Lv->Nat->Nat
 |_,0=>0
 |[],_+1=>0
 |l::r,i+1=>l.b+mx r+off r i
theorem oD:∀(L:List Lv)(i:Nat)(v:Lv)(r:List Lv),L.drop i=v::r->off L (i+1)=off L i+v.b+mx r
 |[],i,v,r,h=>by simp at h
 |l::r',0,v,r,h=>by
  cases h;show l.b+mx r'+off r' 0=0+l.b+mx r';have:off r' 0=0:=by cases r'<;>rfl
  omega
 |l::r',i+1,v,r,h=>by
  have:=oD r' i v r h;show l.b+mx r'+off r' (i+1)=l.b+mx r'+off r' i+v.b+mx r;omega
theorem qz:∀(L:List Lv)(o i:Nat),i<L.length->(hdl o L)[i]? =some ((o+off L i:Nat):Int)
 |[],_,_,h=>by simp at h
 |l::r,o,0,_=>rfl
 |l::r,o,i+1,h=>by
  have:=qz r (o+l.b+mx r) i (by simpa using h);show(hdl (o+l.b+mx r) r)[i]? =some ((o+(l.b+mx r+off r i):Nat):Int);rw[this];congr 2;omega
theorem kZ:∀(L:List Lv)(i:Nat),i<=L.length->fwn L=off L i+fwn (L.drop i)
 |[],0,_=>rfl
 |[],i+1,h=>by simp at h
 |l::r,0,_=>by show _=0+_;rw[List.drop_zero,Nat.zero_add]
 |l::r,i+1,h=>by
  have:=kZ r i (by simpa using h);show l.b+mx r+fwn r=l.b+mx r+off r i+fwn (r.drop i);omega
theorem qF:∀(L:List Lv)(i:Nat),cs (L.drop i)<=cs L
 |[],i=>sM
 |l::r,0=>Int.le_refl _
 |l::r,i+1=>Int.le_trans (qF r i) (v6 l r).2
theorem app24{L M:List Loop}(h:L.length+M.length<=1000000):aO 24 L M=true:=eQ dC oM
theorem p3{l0:List cK}(h0:LvOk l0)(K:Int->List aM->List Loop->Option Bool){R:Option Bool}(hK:K (cs (l0.map lv)) (List.replicate (fwn (l0.map lv)) mvI++bkI 0 (l0.map lv)) (lps 0 (l0.map lv))=R):∀(i m:Nat),i<=l0.length->i<m->f3_l3 l0 (hdl 0 (l0.map lv)) K m (cs ((l0.map lv).drop i)) ((i:Int) - 1) (List.replicate (fwn (l0.map lv)) mvI++bkI (off (l0.map lv) i) ((l0.map lv).drop i)) (lps (off (l0.map lv) i) ((l0.map lv).drop i))=R
 |i,0,_,h=>oM
 |0,m+1,_,_=>by
  rw[f3_l3,dcF oM,cdF,List.drop_zero];have:off (l0.map lv) 0=0:=by cases l0.map lv<;>rfl
  rw[this];exact hK
 |i+1,m+1,hi,hm=>by
  have hN:=h0.nok;have hl5:=h0.len;have hln:=hN.ln;have hcs:=hN.cs;have hx:i<l0.length:=oM;have hxm:l0[i]∈l0:=List.getElem_mem hx;have hb:=h0.b _ hxm;have h7:=oL hb.1;have h8:=oL hb.2.1;have hidx:idx l0 (i:Int)=some l0[i]:=aZ hx;have hd:(l0.map lv).drop i=lv l0[i]::(l0.map lv).drop (i+1):=by rw[List.drop_eq_getElem_cons (by simpa using hx),List.getElem_map]
  generalize hS:(l0.map lv).drop (i+1)=S at hd⊢;have ho:=oD _ i _ _ hd;have hhd:idx (hdl 0 (l0.map lv)) (i:Int)=some ((off (l0.map lv) i:Nat):Int):=by rw[j7,qz _ 0 i (by simpa using hx),Nat.zero_add]
  have hfw:=kZ (l0.map lv) (i+1) (by simpa using hi);rw[hS] at hfw;have hbl:=ia S (off (l0.map lv) (i+1));have hlnc:=cw (lv l0[i]) S;have hlS:ln (lv l0[i]::S)+off (l0.map lv) i<=ln (l0.map lv):=by
   have h1:=ia (l0.map lv) 0;have h2:=kZ (l0.map lv) i (by simpa using Nat.le_of_lt hx);have h3:∀(L:List Lv)(j:Nat),off L j+ln (L.drop j)<=ln L:=λL=>by
    induction L with
    |nil=>intro j;cases j<;>simp[off]
    |cons l r ih=>
     intro j;cases j with
     |zero=>simp[off]
     |succ j=>have:=ih j;have e:=cw l r;show l.b+mx r+off r j+ln (r.drop j)<=_;omega
   have:=h3 (l0.map lv) i;rw[hd] at this;omega
  have hc0:=lg S;have hc1:=v6 (lv l0[i]) S;have hc2:=qF (l0.map lv) i;rw[hd] at hc2;have hbv:((lv l0[i]).b:Int)=m7 l0[i].bef:=Int.toNat_of_nonneg h7.1;have hav:((lv l0[i]).a:Int)=m7 l0[i].aft:=Int.toNat_of_nonneg h8.1;have hBv:((lv l0[i]).B:Int)=l0[i].bnd:=Int.toNat_of_nonneg hb.2.2.1;have hll:(lps (off (l0.map lv) (i+1)) S).length<=1000:=by rw[(kQ S _).2,<-hS];simp;omega
  have hmx:mx S=if i+1<l0.length then 1 else 0:=by by_cases h1:i+1<l0.length;rw[if_pos h1,<-hS,List.drop_eq_getElem_cons (by simpa using h1)];rfl;rw[if_neg h1,<-hS,List.drop_eq_nil_of_le (by simp;omega)];rfl
  obtain⟨B,hB⟩:∃F:Nat,F=9223372036854775808:=⟨_,rfl⟩;have hp4:=λK lw (hl:lw.length<=1000+0)=>p4 hidx (b:=(lv l0[i]).a) hav.symm oM K B 0 lw (Nat.zero_le _) oM hl;rw[show((0:Nat):Int)=0 from rfl] at hp4;rw[f3_l3,show((i+1:Nat):Int) - 1=(i:Int) by omega,dcT oM,cdT,af,af,<-hB,hp4 _ _ (by rw[List.length_append,List.length_replicate];omega),hhd,bnS,hidx,bnS,aq _ (app24 (by simp;omega)),bnS,aq _ (o9 (by simp only[List.length_append,List.length_replicate,List.length_singleton];omega)),bnS,bnS,af];have hlen:(((List.replicate (fwn (l0.map lv)) mvI++bkI (off (l0.map lv) (i+1)) S)++List.replicate ((lv l0[i]).a - 0) mvI).length:Int)=((off (l0.map lv) i+ln (lv l0[i]::S) - 1:Nat):Int):=by simp only[List.length_append,List.length_replicate];omega
  have fin:∀once:Int,once=(lv l0[i]).b+(lv l0[i]).a+1+cs S+mx S->f3_l3 l0 (hdl 0 (l0.map lv)) K m (i64.wrap ((i64.wrap ((i64.wrap l0[i].bnd)+1))*once)) (i64.wrap ((i:Int) - 1)) (((List.replicate (fwn (l0.map lv)) mvI++bkI (off (l0.map lv) (i+1)) S)++List.replicate ((lv l0[i]).a - 0) mvI)++ [jnI ((off (l0.map lv) i:Nat):Int)]) (lps (off (l0.map lv) (i+1)) S++ [⟨((off (l0.map lv) i:Nat):Int),(((List.replicate (fwn (l0.map lv)) mvI++bkI (off (l0.map lv) (i+1)) S)++List.replicate ((lv l0[i]).a - 0) mvI).length:Int),i64.wrap l0[i].bnd⟩])=R:=λonce hon=>by
   have hcc:(l0[i].bnd+1)*once=cs (lv l0[i]::S):=by rw[hon,<-hBv];rfl
   rw[hlen,w64 (x:=l0[i].bnd) oM oM,w64 (x:=l0[i].bnd+1) oM oM,hcc,w64 (x:=cs (lv l0[i]::S)) oM oM,w64 (x:=(i:Int) - 1) oM oM];have ih:=p3 h0 K hK i m oM oM;rw[hd] at ih;rw[<-ih,ho,<-hBv,Nat.sub_zero];show f3_l3 l0 _ K m _ _ _ (lps (off (l0.map lv) i+(lv l0[i]).b+mx S) S++ [_])=f3_l3 l0 _ K m _ _ (_++(bkI (off (l0.map lv) i+(lv l0[i]).b+mx S) S++(List.replicate (lv l0[i]).a mvI++ [jnI _]))) (lps (off (l0.map lv) i+(lv l0[i]).b+mx S) S++ [_]);simp only[List.append_assoc]
  have hm7:∀t,(bif t then f3_l3 l0 (hdl 0 (l0.map lv)) K m (i64.wrap ((i64.wrap ((i64.wrap l0[i].bnd)+1))*(i64.wrap ((i64.wrap ((i64.wrap ((i64.wrap (m7 l0[i].bef+m7 l0[i].aft))+1))+cs S))+1)))) (i64.wrap ((i:Int) - 1)) (((List.replicate (fwn (l0.map lv)) mvI++bkI (off (l0.map lv) (i+1)) S)++List.replicate ((lv l0[i]).a - 0) mvI)++ [jnI ((off (l0.map lv) i:Nat):Int)]) (lps (off (l0.map lv) (i+1)) S++ [⟨((off (l0.map lv) i:Nat):Int),(((List.replicate (fwn (l0.map lv)) mvI++bkI (off (l0.map lv) (i+1)) S)++List.replicate ((lv l0[i]).a - 0) mvI).length:Int),i64.wrap l0[i].bnd⟩]) else f3_l3 l0 (hdl 0 (l0.map lv)) K m (i64.wrap ((i64.wrap ((i64.wrap l0[i].bnd)+1))*(i64.wrap ((i64.wrap ((i64.wrap (m7 l0[i].bef+m7 l0[i].aft))+1))+cs S)))) (i64.wrap ((i:Int) - 1)) (((List.replicate (fwn (l0.map lv)) mvI++bkI (off (l0.map lv) (i+1)) S)++List.replicate ((lv l0[i]).a - 0) mvI)++ [jnI ((off (l0.map lv) i:Nat):Int)]) (lps (off (l0.map lv) (i+1)) S++ [⟨((off (l0.map lv) i:Nat):Int),(((List.replicate (fwn (l0.map lv)) mvI++bkI (off (l0.map lv) (i+1)) S)++List.replicate ((lv l0[i]).a - 0) mvI).length:Int),i64.wrap l0[i].bnd⟩]))=(bif t then R else R)\/t≠decide (i+1<l0.length):=λt=>by
   by_cases ht:t=decide (i+1<l0.length);refine .inl ?_;rw[w64 (x:=m7 l0[i].bef+m7 l0[i].aft) oM oM,w64 (x:=m7 l0[i].bef+m7 l0[i].aft+1) oM oM,w64 (x:=m7 l0[i].bef+m7 l0[i].aft+1+cs S) oM oM,w64 (x:=m7 l0[i].bef+m7 l0[i].aft+1+cs S+1) oM oM];cases t with
   |true=>have h1:=of_decide_eq_true ht.symm;rw[if_pos h1] at hmx;exact fin _ oM
   |false=>have h1:=of_decide_eq_false ht.symm;rw[if_neg h1] at hmx;exact fin _ oM
   exact .inr ht
  rw[w1n oM];rcases hm7 (decide (((i+1:Nat):Int)<(l0.length:Int))) with h9|h9
  refine Eq.trans h9 ?_;cases decide (((i+1:Nat):Int)<(l0.length:Int))<;>rfl;exact absurd (decide_eq_decide.2 oM) h9
theorem sC{l0:List cK}(h4:f4=some true)(hb:∀x∈l0,(0<=x.bef/\x.bef<=255)/\(0<=x.aft/\x.aft<=255)/\(0<=x.bnd/\x.bnd<=255)):f3 l0=some true:=by unfold f3;rw[h4];by_cases hl:(l0.length:Int)>5;rw[dcT hl];rfl;have h0:LvOk l0:=⟨oM,hb⟩;have hN:=h0.nok;have hcs:=hN.cs;have hc0:=lg (l0.map lv);have hl5:=h0.len;have hw:=rK hN;obtain⟨B,hB⟩:∃F:Nat,F=9223372036854775808:=⟨_,rfl⟩;rw[dcF hl,cdF,af,af,<-hB];refine(p1 h0 _ l0 B 0 0 [] rfl (Nat.zero_le _) oM (Nat.le_refl _) (Nat.zero_le _)).trans ?_;rw[List.nil_append,Nat.zero_add,af];have h3:=λK R hK=>p3 h0 K (R:=R) hK l0.length (l0.length+1) (Nat.le_refl _) oM;have e1:(l0.map lv).drop l0.length=[]:=List.drop_eq_nil_of_le sM;have e2:∀o,bkI o []=[]:=λ_=>rfl;have e3:∀o,lps o []=[]:=λ_=>rfl;rw[e1] at h3;simp only[e2,e3,List.append_nil] at h3;rw[w64 oM oM,show Int.toNat ((l0.length:Int) - 1+1)+1=l0.length+1 by omega];refine h3 _ _ ?_;have hlen:=eL (l0.map lv);unfold isN at hlen;rw[List.length_append] at hlen;have hln:=hN.ln;rw[aq _ (o9 (by rw[List.length_singleton] at hlen⊢;omega))];rw[show f6 (bD.mk ((List.replicate (fwn (l0.map lv)) mvI++bkI 0 (l0.map lv))++ [(aM.mk 57 0 0 0 0 0 0)]) [] (lps 0 (l0.map lv)) [] [] [] [] 4 [(bp.mk 0 0 [] 0)] [(bq.mk 0 [])] []) f7 0 []=some (cs (l0.map lv)+10,0) from hw,bnS,w64 oM oM,dcF oM,cdF,dcT rfl,dcT rfl];rfl
def sm(c:Nat->Int):Nat->Int
 |0=>0
 |f+1=>sm c f+c f
theorem uT{c:Nat->Int}(hc:∀i,0<=c i/\c i<=1000):∀(d f:Nat),sm c f<=sm c (f+d)/\sm c (f+d)<=sm c f+1000*d
 |0,f=>sM
 |d+1,f=>by
  have h1:=uT hc d f;have h2:=hc (f+d);show sm c f<=sm c (f+d)+c (f+d)/\sm c (f+d)+c (f+d)<=_;omega
theorem gy{c:Nat->Int}(hc:∀i,0<=c i/\c i<=1000){f g:Nat}(h:f<=g):sm c f<=sm c g/\sm c g<=sm c f+1000*(g - f:Nat):=by have:=uT hc (g - f) f;rwa [show f+(g - f)=g by omega] at this
def h0:Nat->Option Nat:=λ_=>none
theorem cg0{n:Nat}(hp:0<n)(hn:n<=90):CG n h0:=⟨hp,hn,λ_ _ h=>(by cases h),λ_ _ _ h=>(by cases h),λ_ _ _ _ h=>(by cases h)⟩
theorem pt0{n:Nat}{c bd:Nat->Int}(hn:0<n){a b f:Nat}{A:Int}(hp:Pt n h0 c bd a b f A):(a=n\/a=0)->b+1=n->f<=n/\A=sm c f:=by
 induction hp with
 |st hab=>intro ha hb;have e:_=0:=(show _=0 by rcases ha with ha|ha;omega;exact ha);subst e;exact⟨Nat.zero_le _,rfl⟩
 |fr b=>intro ha hb;exact⟨Nat.zero_le _,rfl⟩
 | @go a b f A hp hf hc ih=>intro ha hb;have:=ih ha hb;exact⟨oM,by rw[this.2];rfl⟩
 |lp hp hf hy hyb hq=>cases hy
def h1(k z:Nat):Nat->Option Nat:=λi=>if i=k then some z else none
theorem fV{k z y f:Nat}(h:h1 k z y=some f):y=k/\f=z:=by unfold h1 at h;split at h;rename_i e;cases h;exact⟨e,rfl⟩;cases h
theorem cg1{n k z:Nat}(hz:z<=k)(hk:k<n)(hn:n<=90):CG n (h1 k z):=
 ⟨oM,hn,λi y h=>by have:=fV h;omega,λi j y h1 h2=>by have:=fV h1;have:=fV h2;omega,λi y j w h1 h2 _ _=>by have:=fV h1;have:=fV h2;omega⟩
theorem pt1i{n k z:Nat}{c bd:Nat->Int}(hz:z<=k)(hk:k<n){a b f:Nat}{A:Int}(hp:Pt n (h1 k z) c bd a b f A):a=z->b=k->z<=f/\f<=k+1/\A=sm c f - sm c z:=by
 induction hp with
 |st hab=>intro ha hb;subst ha;exact⟨Nat.le_refl _,oM,oM⟩
 |fr b=>intro ha hb;omega
 | @go a b f A hp hf hc ih=>intro ha hb;have:=ih ha hb;have e:sm c (f+1)=sm c f+c f:=rfl;exact⟨oM,oM,oM⟩
 |lp hp hf hy hyb hq=>intro ha hb;have:=fV hy;omega
theorem pt1{n k z:Nat}{c bd:Nat->Int}(hz:z<=k)(hk:k<n){a b f:Nat}{A:Int}(hp:Pt n (h1 k z) c bd a b f A):(a=n\/(a=0/\z≠0))->b+1=n->(f<=z/\A=sm c f)\/(k<f/\f<=n/\A=sm c z+(bd z*(sm c (k+1) - sm c z)+(sm c (k+1) - sm c z))+(sm c f - sm c (k+1))):=by
 have hkk:h1 k z k=some z:=if_pos rfl;induction hp with
 |st hab=>
  intro ha hb;rcases ha with ha|⟨ha,_⟩
  omega;subst ha;exact .inl ⟨Nat.zero_le _,rfl⟩
 |fr b=>intro ha hb;exact .inl ⟨Nat.zero_le _,rfl⟩
 | @go a b f A hp hf hc ih=>
  intro ha hb;have e:sm c (f+1)=sm c f+c f:=rfl;rcases ih ha hb with⟨i1,i2⟩|⟨i1,i2,i3⟩
  by_cases e2:f=z;exfalso;subst e2;rcases hc with hc|hc
  omega;exact hc k hkk;exact .inl ⟨oM,oM⟩;exact .inr ⟨oM,oM,oM⟩
 | @lp a b f y A S hp hf hy hyb hq ih _=>
  intro ha hb;obtain⟨e1,e2⟩:=fV hy;subst e1 e2;rcases ih ha hb with⟨i1,i2⟩|⟨i1,i2,i3⟩
  have:=pt1i hz hk hq rfl rfl;rw[this.2.2];exact .inr ⟨oM,oM,oM⟩;omega
def tb(T:List (List Int))(a:Int):List Int:=Option.getD (idx T a) []
def vu(T:List (List Int)):Bool:=(T.all λL=>(L.all λz=>decide (0<=z)&&decide (z<(T.length:Int)))&&decide (L.length<=2)&&decide (L.Pairwise (·<·)))&&(List.range T.length).all λi=>decide (i+1<T.length->((i+1:Nat):Int)∈tb T (i:Int))
theorem uR{is:List aM}{lp:List Loop}{T:List (List Int)}(hT:T.length=is.length)(hl:is.length<=100)(h:vu T=true)(h39:∀i:Nat,i<is.length->f107 (lT is lp) (i:Int)=some (tb T (i:Int)))(h11:f11 (lT is lp)=some true)(hp:0<is.length):∃W,f34 (lT is lp) 0=some W/\∀i:Nat,i<is.length->gL W (i:Int)=tb T (i:Int):=by
 unfold vu at h;simp only[Bool.and_eq_true,List.all_eq_true,decide_eq_true_eq,List.mem_range] at h;have hm:∀a,tb T a=[]\/tb T a∈T:=λa=>by
  unfold tb;cases hz:idx T a with
  |none=>exact .inl rfl
  |some L=>exact .inr (List.mem_of_getElem? (dp hz))
 refine qe (t:=lT is lp) (nx:=tb T) ⟨λa h0 h1=>?_,λa z hz=>?_,λa=>?_,hl⟩ hp h11 (λa=>?_) λi hi=>h.2 i (by have:i+1<is.length:=hi;omega) (by have:i+1<is.length:=hi;omega);obtain⟨i,rfl⟩:=Int.eq_ofNat_of_zero_le h0;exact h39 i (by have:(i:Int)<(is.length:Int):=h1;omega);show 0<=z/\z<(is.length:Int);rw[<-hT];rcases hm a with e|e
 rw[e] at hz;cases hz;exact(h.1 _ e).1.1 z hz;rcases hm a with e|e
 rw[e];simp;exact(h.1 _ e).2;rcases hm a with e|e
 rw[e];simp;exact(h.1 _ e).1.2
theorem f6_chain{is:List aM}{lp:List Loop}{T:List (List Int)}(hT:T.length=is.length)(hl:is.length<=100)(h:vu T=true)(h39:∀i:Nat,i<is.length->f107 (lT is lp) (i:Int)=some (tb T (i:Int)))(h11:f11 (lT is lp)=some true)(hp:0<is.length){stops:List Int}(hs:stops.length<=1000)(hs2:∀x∈stops,0<=x/\x<(is.length:Int)){n:Nat}{hh:Nat->Option Nat}(g:CG n hh)(hn:n<=is.length)(hW:∀i:Nat,i<n->(if(i:Int)∈stops then[] else tb T (i:Int))=Nx n hh i){r:Int×Int}(hr:f6r (lT is lp) f7 (ad n) (Bk n hh)=some r):f6 (lT is lp) f7 0 stops=some r:=by
 obtain⟨W,h1,h2⟩:=uR hT hl h h39 h11 hp;obtain⟨B,hB⟩:∃F:Nat,F=9223372036854775808:=⟨_,rfl⟩;have hg:=g.le;have hpos:=g.pos;rw[f6_open h11 kb (by show 0<=(0:Int)/\(0:Int)<(is.length:Int);omega) hs (λx hx=>hs2 x hx) h1 hB];obtain⟨m',h3⟩:=grp g hs (W:=W) (λi hi=>by
  rw[<-hW i hi];split;rfl;exact h2 i oM) (λa _ b=>f6r (lT is lp) f7 a b) B 0 (ai [] 0 0) (Nat.zero_le _) oM (λz=>by
  rw[aF];by_cases e:z=0;subst e;rw[show((0:Nat):Int)=0 from rfl,if_pos rfl,if_pos oM];rw[if_neg oM,if_neg oM];rfl)
 rw[show min n (0+1)=1 by omega] at h3;exact h3.trans hr
theorem r0{is:List aM}{n:Nat}(hp:0<n)(hn:n<=90){cst:Nat->Int}(hi:∀i:Nat,i<n->∃x,idx is (i:Int)=some x/\0<=x.op/\x.op<58/\f7 x.op.toNat=cst i)(hc:∀i,0<=cst i/\cst i<=1000):f6r (lT is []) f7 (ad n) (Bk n h0)=some (sm cst n,0):=
 f6r_eq (cg0 hp hn) (bd:=λ_=>0) hi hc (λ_=>⟨Int.le_refl _,oM⟩) (Nat.zero_le _) (λl hl=>by cases hl) (λy a h=>by cases h) (λa b f A hw hp'=>by
  rcases hw with hw|⟨hw,hb⟩
  cases hw;have:=pt0 hp hp' (by rcases hw with hw|hw;exact .inl hw;exact .inr hw.1) hb;have h2:=gy hc (Nat.zero_le f);have e:sm cst 0=0:=rfl;omega) (a:=0) (.inr ⟨rfl,λy h=>by cases h⟩) λA hp'=>(pt0 hp hp' (.inr rfl) oM).2
theorem r1{is:List aM}{n k z:Nat}(hz:z<=k)(hk:k<n)(hn:n<=90){cst:Nat->Int}(hi:∀i:Nat,i<n->∃x,idx is (i:Int)=some x/\0<=x.op/\x.op<58/\f7 x.op.toNat=cst i)(hc:∀i,0<=cst i/\cst i<=1000){B:Int}(hB:0<=B/\B<=10):f6r (lT is [⟨(z:Int),(k:Int),B⟩]) f7 (ad n) (Bk n (h1 k z))=some (sm cst z+(B*(sm cst (k+1) - sm cst z)+(sm cst (k+1) - sm cst z))+(sm cst n - sm cst (k+1)),0):=by
 have hkk:h1 k z k=some z:=if_pos rfl;have hS:=gy hc (show z<=k+1 by omega);have hmul:0<=B*(sm cst (k+1) - sm cst z)/\B*(sm cst (k+1) - sm cst z)<=10*100000:=⟨Int.mul_nonneg hB.1 oM,Int.mul_le_mul hB.2 oM oM oM⟩;have hz0:=gy hc (Nat.zero_le z);have e0:sm cst 0=0:=rfl;have ha:∀a,(a=n\/(a=0/\∀y,h1 k z y≠some 0))->(a=n\/(a=0/\z≠0)):=λa ha=>by
  rcases ha with ha|⟨ha,h⟩
  exact .inl ha;exact .inr ⟨ha,λe=>h k (by rw[hkk,e])⟩
 have htop:∀a b f A,Whl n (h1 k z) a b->Pt n (h1 k z) cst (λ_=>B) a b f A->0<=A/\A<=1125899906842624:=λa b f A hw hp=>by
  rcases hw with hw|⟨hw,hb⟩
  obtain⟨e1,e2⟩:=fV hw;have h2:=pt1i hz hk hp e2 e1;have h3:=gy hc h2.1;omega;rcases pt1 hz hk hp (ha a hw) hb with⟨h2,h3⟩|⟨h2,h3,h4⟩
  have:=gy hc (Nat.zero_le f);omega;have h5:=gy hc (show k+1<=f by omega);have h4':A=sm cst z+(B*(sm cst (k+1) - sm cst z)+(sm cst (k+1) - sm cst z))+(sm cst f - sm cst (k+1)):=h4;omega
 have hV:∀a,(a=n\/(a=0/\∀y,h1 k z y≠some 0))->∀A,Pt n (h1 k z) cst (λ_=>B) a (n - 1) n A->A=sm cst z+(B*(sm cst (k+1) - sm cst z)+(sm cst (k+1) - sm cst z))+(sm cst n - sm cst (k+1)):=λa h A hp=>by
  rcases pt1 hz hk hp (ha a h) oM with⟨h2,h3⟩|⟨h2,h3,h4⟩
  omega;exact h4
 have hcg:=cg1 hz hk hn;by_cases hx:∃y,h1 k z y=some 0;exact f6r_eq hcg hi hc (bd:=λ_=>B) (λ_=>⟨hB.1,oM⟩) (by show 1<=1000;omega) (λl hl a _=>by rw[List.mem_singleton.1 hl]) (λy a h=>⟨_,List.mem_singleton.2 rfl,by have:=fV h;show(k:Int)=_;omega,by have:=fV h;show(z:Int)=_;omega⟩) htop (.inl ⟨rfl,hx⟩) (hV _ (.inl rfl));have hx':∀y,h1 k z y≠some 0:=λy h=>hx ⟨y,h⟩;exact f6r_eq hcg hi hc (bd:=λ_=>B) (λ_=>⟨hB.1,oM⟩) (by show 1<=1000;omega) (λl hl a _=>by rw[List.mem_singleton.1 hl]) (λy a h=>⟨_,List.mem_singleton.2 rfl,by have:=fV h;show(k:Int)=_;omega,by have:=fV h;show(z:Int)=_;omega⟩) htop (.inr ⟨rfl,hx'⟩) (hV _ (.inr ⟨rfl,hx'⟩))
abbrev oI(o:Int)(z:Int):aM:=⟨o,0,0,0,0,0,z⟩
def lsF(l:List Int)(i:Nat):Int:=l.getD i 0
theorem kO{l:List Int}(h:(l.all λx=>decide (0<=x/\x<=1000))=true)(i:Nat):0<=lsF l i/\lsF l i<=1000:=by
 unfold lsF;rw[List.getD_eq_getElem?_getD];cases hz:l[i]? with
 |none=>show 0<=(0:Int)/\(0:Int)<=1000;omega
 |some x=>exact of_decide_eq_true (List.all_eq_true.1 h x (List.mem_of_getElem? hz))
def csOk(is:List aM)(l:List Int)(n:Nat):Bool:=(List.range n).all λi=>match is[i]? with
 |some x=>decide (0<=x.op)&&decide (x.op<58)&&decide (f7 x.op.toNat=lsF l i)
 |none=>false
theorem hY{is:List aM}{l:List Int}{n:Nat}(h:csOk is l n=true)(i:Nat)(hi:i<n):∃x,idx is (i:Int)=some x/\0<=x.op/\x.op<58/\f7 x.op.toNat=lsF l i:=by
 have:=List.all_eq_true.1 h i (List.mem_range.2 hi);rw[j7];cases hz:is[i]? with
 |none=>rw[hz] at this;cases this
 |some x=>rw[hz] at this;simp only[Bool.and_eq_true,decide_eq_true_eq] at this;exact⟨x,rfl,this.1.1,this.1.2,this.2⟩
def tA:List aM:=[oI 1 0,oI 27 0,oI 31 1,oI 57 0]
def TA:List (List Int):=[[1],[2],[1,3],[]]
theorem nA(lp:List Loop):∀i:Nat,i<tA.length->f107 (lT tA lp) (i:Int)=some (tb TA (i:Int))
 |0,_=>gg (x:=oI 1 0) rfl dC dC (.inl rfl)
 |1,_=>gg (x:=oI 27 0) rfl dC dC (.inr (.inr (.inr (.inl rfl))))
 |2,_=>vC (x:=oI 31 1) rfl dC dC (.inr rfl) dC dC λz=>by show z∈[(1:Int),3]↔z=3\/z=1;simp;exact Or.comm
 |3,_=>jf (x:=oI 57 0) rfl rfl
 |_+4,h=>by have:tA.length=4:=rfl;omega
def tS:List aM:=[oI 29 0]
def t2:List aM:=[oI 1 0,oI 1 0,oI 57 0]
def t3:List aM:=[oI 1 0,oI 57 0]
def tL:List aM:=[oI 53 0,oI 1 0,oI 55 0,oI 57 0]
def tJ:List aM:=[oI 1 0,oI 30 3,oI 11 0,oI 57 0]
theorem wA{lp:List Loop}(h11:f11 (lT tA lp)=some true){r:Int×Int}(hr:f6r (lT tA lp) f7 (ad 4) (Bk 4 (h1 2 1))=some r):f6 (lT tA lp) f7 0 []=some r:=
 f6_chain (T:=TA) rfl dC dC (nA lp) h11 dC dC (λx hx=>by cases hx) (cg1 dC dC dC) dC (λi hi=>by
  rw[if_neg sM];match i,hi with
  |0,_=>rfl
  |1,_=>rfl
  |2,_=>rfl
  |3,_=>rfl) hr
theorem wA1:f6 (lT tA [⟨1,2,3⟩]) f7 0 []=some (19,0):=
 wA (by decide+kernel) (r1 (z:=1) (k:=2) (n:=4) (B:=3) (cst:=lsF [1,1,1,10]) dC dC dC (hY dC) (kO dC) dC)
theorem sE{is:List aM}(K:List ((Int×Int)×Int)->Option (Int×Int)):f6_l5 (lT is []) K (Int.toNat (((lT is []).loops.length:Int) - 0)+1) 0 []=K []:=rfl
theorem l6_A(K:Int->Eds->Option (Int×Int)):f6_l6 (ad 4) [] K (Bks 4 (h1 2 1)) (Int.toNat (((Bks 4 (h1 2 1)).length:Int) - 0)+1) 0 []=K 380 []:=rfl
theorem vS{a:List Int}{m:List ((Int×Int)×Int)}(K:Int->Eds->Option (Int×Int)):f6_l6 a m K [] (Int.toNat ((List.length ([]:List Pr2):Int) - 0)+1) 0 []=K 0 []:=rfl
theorem wA0:f6 (lT tA []) f7 0 []=some (0,380):=by refine wA (by decide+kernel) ?_;have g:CG 4 (h1 2 1):=cg1 dC dC dC;unfold f6r;rw[af];refine(q4 (n:=4) (cst:=lsF [1,1,1,10]) dC (hY (is:=tA) dC) _ (Int.toNat (((ad 4).length:Int) - 0)+1) 0 dC dC).trans ?_;rw[se g,bnS,Bool.not_true,cdF,af,af];refine(sE _).trans ?_;rw[af,mD g,bnS];refine(l6_A _).trans ?_;rw[af];refine ei λl hp=>?_;rw[List.Perm.eq_nil hp];rfl
theorem wS:f6 (lT tS [⟨0,0,5⟩]) f7 0 []=some (6,0):=
 f6_chain (T:=[[0]]) rfl dC dC (λi hi=>by
  match i,hi with
  |0,_=>exact vB (x:=oI 29 0) rfl rfl) (by decide+kernel) dC dC (λx hx=>by cases hx) (cg1 (n:=1) (k:=0) (z:=0) dC dC dC) dC (λi hi=>by
  rw[if_neg sM];match i,hi with
  |0,_=>rfl) (r1 (z:=0) (k:=0) (n:=1) (B:=5) (cst:=lsF [1]) dC dC dC (hY dC) (kO dC) dC)
theorem w2:f6 (lT t2 []) f7 0 [1]=some (2,0):=
 f6_chain (T:=[[1],[2],[]]) rfl dC dC (λi hi=>by
  match i,hi with
  |0,_=>exact gg (x:=oI 1 0) rfl dC dC (.inl rfl)
  |1,_=>exact gg (x:=oI 1 0) rfl dC dC (.inl rfl)
  |2,_=>exact jf (x:=oI 57 0) rfl rfl) (by decide+kernel) dC dC (λx hx=>by rw[List.mem_singleton.1 hx];decide) (cg0 (n:=2) dC dC) dC (λi hi=>by
  match i,hi with
  |0,_=>rfl
  |1,_=>rfl) (r0 (n:=2) (cst:=lsF [1,1]) dC dC (hY dC) (kO dC))
theorem w3:f6 (lT t3 []) f7 0 []=some (11,0):=
 f6_chain (T:=[[1],[]]) rfl dC dC (λi hi=>by
  match i,hi with
  |0,_=>exact gg (x:=oI 1 0) rfl dC dC (.inl rfl)
  |1,_=>exact jf (x:=oI 57 0) rfl rfl) (by decide+kernel) dC dC (λx hx=>by cases hx) (cg0 (n:=2) dC dC) dC (λi hi=>by
  rw[if_neg sM];match i,hi with
  |0,_=>rfl
  |1,_=>rfl) (r0 (n:=2) (cst:=lsF [1,10]) dC dC (hY dC) (kO dC))
theorem wL:f6 (lT tL []) f7 0 [2]=some (21,0):=
 f6_chain (T:=[[1],[2],[3],[]]) rfl dC dC (λi hi=>by
  match i,hi with
  |0,_=>exact gg (x:=oI 53 0) rfl dC dC (.inr (.inr (.inr (.inr (.inl rfl)))))
  |1,_=>exact gg (x:=oI 1 0) rfl dC dC (.inl rfl)
  |2,_=>exact gg (x:=oI 55 0) rfl dC dC (.inr (.inr (.inr (.inr (.inr rfl)))))
  |3,_=>exact jf (x:=oI 57 0) rfl rfl) (by decide+kernel) dC dC (λx hx=>by rw[List.mem_singleton.1 hx];decide) (cg0 (n:=3) dC dC) dC (λi hi=>by
  match i,hi with
  |0,_=>rfl
  |1,_=>rfl
  |2,_=>rfl) (r0 (n:=3) (cst:=lsF [8,1,12]) dC dC (hY dC) (kO dC))
def BJ:List aj:=[⟨0,0,[1]⟩,⟨0,0,[2,3]⟩,⟨0,0,[3]⟩,⟨0,0,[]⟩]
theorem bjd:f73 BJ=some [-1,0,1,1]:=by decide+kernel
def g37(b:List aj)(D:List Int)(K:List Pr2->Option (List Pr2)):Nat->Int->List Pr2->Option (List Pr2)
 |0,_,_=>none
 |n+1,t,lw=>bif decide (t<(List.length D:Int)) then Option.bind (idx b t) λx=>f37_l2 D t (λlw=>g37 b D K n (i64.wrap (t+1)) lw) x.next (Int.toNat ((List.length x.next:Int) - 0)+1) 0 lw else K lw
theorem sO{b:List aj}(hb:∀x∈b,Asc x.next/\x.next.length<=1000)(D:List Int)(K:List Pr2->Option (List Pr2)):∀(m:Nat)(t:Int)(lw:List Pr2),f37_l1 b D K m t lw=g37 b D K m t lw
 |0,_,_=>rfl
 |m+1,t,lw=>by
  rw[f37_l1,g37,af];cases hz:idx b t with
  |none=>rfl
  |some x=>have h:=hb x (List.mem_of_getElem? (dp hz));rw[bnS,bnS];unfold f42o;rw[aq _ (dM (by simp;omega)),bnS,f74_to h.2 (fH h.1) h.1 λz=>Iff.rfl,bnS,f75_asc h.1,bnS];simp only[sO hb D K m]
theorem bjA:∀x∈BJ,Asc x.next/\x.next.length<=1000:=by decide
theorem bj37:f37 BJ=some []:=by unfold f37;rw[bjd,bnS,af,sO bjA];kernel_rfl
theorem bj37w:f37w BJ=some []:=by rw[<-bj37];unfold f37w f37;simp only[af,l1w]
theorem bj15:f15 BJ=some true:=by unfold f15;rw[show f36 BJ=some true by decide+kernel,bnS,Bool.not_true,cdF,af,bj37,bnS];decide+kernel
theorem bjr:f6r (lT tJ []) f7 (ad 4) BJ=some (15,0):=by unfold f6r;rw[af];refine(q4 (n:=4) (cst:=lsF [1,1,3,10]) dC (hY (is:=tJ) dC) _ (Int.toNat (((ad 4).length:Int) - 0)+1) 0 dC dC).trans ?_;rw[bj15,bnS,Bool.not_true,cdF,af,af];refine(sE _).trans ?_;rw[af,bj37w,bnS];refine(vS _).trans ?_;rw[af];refine ei λl hp=>?_;rw[List.Perm.eq_nil hp,show eN (f6_m7 BJ) [] []=some [] from rfl,bnS];dsimp only;rw[dcT (show(0:Int)=0 from rfl),Bool.not_true,cdF,af,aq _ dC];rw[show f40 100 (List.replicate (Int.toNat (BJ.length:Int)) (false:Bool)) (ad 4) BJ (mR 4 (lsF [1,1,3,10])) [] [] [] [] 0=some ([true,true,true,true],[3,2,1,0]) by decide+kernel,bnS];dsimp only;rw[show decide ((List.length (Option.getD (ac ([]:Eds) 0) []):Int)>0)=false from rfl,cdF];obtain⟨fo,hf⟩:∃fo,f19 100 (ad 4) BJ (mR 4 (lsF [1,1,3,10])) [3,2,1,0] [] [] [] 0 [3,2,1,0]=some (fo,[(0,1),(1,2),(2,5),(3,15)]):=⟨[],by decide+kernel⟩;rw[hf,bnS];show cA [(0,1),(1,2),(2,5),(3,15)] f6_m9 (λw=>bif decide (w>9007199254740992) then some (0,3) else some (w,0)) 0=_;refine q9r (A:=15) (λp w=>rfl) dC (λz v h=>?_) ⟨3,by decide⟩ _ rfl;have:=ej h;simp at this;omega
theorem jZ{W:List (Int×List Int)}{K:List Int->List (Int×Int)->List aj->Option (Int×Int)}{m i:Nat}{lw lw' lx:List Int}{mm mm':List (Int×Int)}{lb:List aj}{x:Int}(hx:idx lw (i:Int)=some x)(hi:i<1000)(hb:lb.length<=1000)
  (hR:∀k:List Int->List (Int×Int)->List Int->Option (Int×Int),f6_l3 W x k (Int.toNat ((List.length (Option.getD (ac W x) []):Int) - 0)+1) 0 lw mm []=k lw' mm' lx):f6_l2 [] W K (m+1) (i:Int) lw mm lb=f6_l2 [] W K m ((i+1:Nat):Int) lw' mm' (lb++ [⟨0,0,lx⟩]):=by
 have h1:=cQ hx;rw[f6_l2,dcT oM,cdT,af,hx,bnS,af,jt sM,bnS,dcF sM,Bool.not_false,cdT,hR,aq _ (u9 (by simp;omega)),w1n oM]
theorem wJ:f6 (lT tJ []) f7 0 []=some (15,0):=by
 have h11:f11 (lT tJ [])=some true:=by decide+kernel
 obtain⟨W,g1,g2⟩:=uR (is:=tJ) (lp:=[]) (T:=[[1],[2,3],[3],[]]) rfl dC dC (λi hi=>by
  match i,hi with
  |0,_=>exact gg (x:=oI 1 0) rfl dC dC (.inl rfl)
  |1,_=>exact vC (x:=oI 30 3) rfl dC dC (.inl rfl) dC dC λz=>by show z∈[(2:Int),3]↔z=2\/z=3;simp
  |2,_=>exact gg (x:=oI 11 0) rfl dC dC (.inr (.inr (.inl rfl)))
  |3,_=>exact jf (x:=oI 57 0) rfl rfl) h11 dC
 obtain⟨B,hB⟩:∃F:Nat,F=9223372036854775808:=⟨_,rfl⟩;have k0:Option.getD (ac W 0) []=[1]:=g2 0 dC;have k1:Option.getD (ac W 1) []=[2,3]:=g2 1 dC;have k2:Option.getD (ac W 2) []=[3]:=g2 2 dC;have k3:Option.getD (ac W 3) []=[]:=g2 3 dC;rw[f6_open h11 kb dC sM (λx hx=>by cases hx) g1 hB];obtain⟨F,hF⟩:∃F,B=F+1+1+1+1+1:=⟨9223372036854775803,hB⟩;rw[hF];refine(jZ (i:=0) (x:=0) rfl oM sM λk=>by
  rw[k0];exact(pb (t:=0) (m:=1) (z:=1) k0 rfl oM rfl rfl sM sM).trans (jO (L:=[1]) k0)).trans ?_
 refine(jZ (i:=1) (x:=1) rfl oM sM λk=>by
  rw[k1];exact(pb (t:=0) (m:=2) (z:=2) k1 rfl oM rfl rfl sM sM).trans ((pb (t:=1) (m:=1) (z:=3) k1 rfl oM rfl rfl sM sM).trans (jO (L:=[2,3]) k1))).trans ?_
 refine(jZ (i:=2) (x:=2) rfl oM sM λk=>by
  rw[k2];exact(nv (t:=0) (m:=1) (z:=3) k2 rfl oM rfl sM).trans (jO (L:=[3]) k2)).trans ?_
 refine(jZ (i:=3) (x:=3) rfl oM sM λk=>by
  rw[k3];exact jO (L:=[]) k3).trans ?_
 exact bjr
theorem actL:f8 (lT tL []) f7 0=some (21,0):=by unfold f8;rw[show f11 (lT tL [])=some true by decide+kernel,bnS];show Option.bind (f6 (lT tL []) f7 0 [2]) _=_;rw[wL];rfl
theorem actA:f8 (lT tA [⟨1,2,3⟩]) f7 0=some (0,2):=by unfold f8;rw[show f11 (lT tA [⟨1,2,3⟩])=some true by decide+kernel,bnS];rfl
theorem wO:f6 (lT tA [⟨1,2,3⟩]) f7 4 []=some (0,2):=by unfold f6;rw[show f11 (lT tA [⟨1,2,3⟩])=some true by decide+kernel,bnS,kb];rfl
theorem ue:f4=some true:=by
 have n9:∀{t:bD}{w:Int}{s:List Int}{v:Int},f6 t f7 0 s=some (v,0)->v=w->f9 t w s=some true:=λh e=>by
  unfold f9;rw[h,bnS,e,dcT rfl,dcT rfl];rfl
 unfold f4;rw[show f5 [(aM.mk 1 0 0 0 0 0 0),(aM.mk 27 0 0 0 0 0 0),(aM.mk 31 0 0 0 0 0 1),(aM.mk 57 0 0 0 0 0 0)]=some (lT tA []) from rfl,bnS,wA0,bnS,show f5 [(aM.mk 29 0 0 0 0 0 0)]=some (lT tS []) from rfl,bnS,show f5 [(aM.mk 53 0 0 0 0 0 0),(aM.mk 1 0 0 0 0 0 0),(aM.mk 55 0 0 0 0 0 0),(aM.mk 57 0 0 0 0 0 0)]=some (lT tL []) from rfl,bnS,actL,bnS];show Option.bind (f8 (lT tA [⟨1,2,3⟩]) f7 0) _=_;rw[actA,bnS];show Option.bind (f6 (lT tA [⟨1,2,3⟩]) f7 4 []) _=_;rw[wO,bnS];show Option.bind (f9 (lT tA [⟨1,2,3⟩]) 19 []) _=_;rw[n9 wA1 rfl,bnS,Bool.true_and,dcT (show(380:Int)=380 from rfl),cdT,show f5 [(aM.mk 1 0 0 0 0 0 0),(aM.mk 1 0 0 0 0 0 0),(aM.mk 57 0 0 0 0 0 0)]=some (lT t2 []) from rfl,bnS,n9 w2 rfl,bnS,cdT,show f5 [(aM.mk 1 0 0 0 0 0 0),(aM.mk 57 0 0 0 0 0 0)]=some (lT t3 []) from rfl,bnS,n9 w3 rfl,bnS,cdT,show f5 [(aM.mk 1 0 0 0 0 0 0),(aM.mk 30 0 0 0 0 0 3),(aM.mk 11 0 0 0 0 0 0),(aM.mk 57 0 0 0 0 0 0)]=some (lT tJ []) from rfl,bnS,n9 wJ rfl,bnS,cdT];show Option.bind (Option.bind (f9 (lT tS [⟨0,0,5⟩]) 6 []) _) _=_;rw[n9 wS rfl];rfl
theorem sD{l0:List cK}(hb:∀x∈l0,(0<=x.bef/\x.bef<=255)/\(0<=x.aft/\x.aft<=255)/\(0<=x.bnd/\x.bnd<=255)):f3 l0=some true:=sC ue hb
end Go.Proofs.YtoigciljcejeaaaGreatDoor
