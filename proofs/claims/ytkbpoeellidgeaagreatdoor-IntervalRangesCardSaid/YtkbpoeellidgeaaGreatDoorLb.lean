/- Part of the proof. -/
import Derived.KernelRfl
import Derived.Test.YtkbpoeellidgeaaGreatDoorO
import Derived.Test.YtkbpoeellidgeaaGreatDoorLa
set_option linter.unusedVariables false
set_option linter.unusedSimpArgs false
set_option linter.unusedSectionVars false
set_option linter.unnecessarySimpa false
set_option maxRecDepth 10000
namespace Go.Proofs.YtkbpoeellidgeaaGreatDoor
open Go Go.Sk
theorem ga{ε σ β:Type}{L:List ε}{step:ε→σ→Option σ}{K:σ→Option β}{s s':σ}(h:∀l,l.Perm L→dR step l s=some s'):gb L step K s=K s':=by
 cases hK:K s' with
 |some r=>exact rR λl hl=>by rw[h l hl,bnS,hK]
 |none=>
  cases hr:gb L step K s with
  |none=>rfl
  |some r=>
   have:=kS hr L (List.Perm.refl _)
   rw[h L (List.Perm.refl _),bnS,hK] at this
   cases this
theorem mG{ε σ κ:Type}(key:ε→κ)(step:ε→σ→Option σ)(I:σ→Prop)(P:ε→Prop)(h1:∀x,P x→∀s,I s→∃s',step x s=some s'∧I s')(h2:∀x y,P x→P y→key x≠key y→∀s,I s→(step x s).bind (step y)=(step y s).bind (step x)){l L:List ε}(hp:l.Perm L):(L.map key).Nodup→(∀x∈L,P x)→∀s,I s→dR step l s=dR step L s:=by
 induction hp with
 |nil=>intro _ _ s _;rfl
 |cons x hp ih=>
  intro hn hP s hs
  obtain⟨s',e,hs'⟩:=h1 x (hP x List.mem_cons_self) s hs
  rw[dR,dR,e,bnS,bnS]
  rw[List.map_cons,List.nodup_cons] at hn
  exact ih hn.2 (λy hy=>hP y (List.mem_cons_of_mem _ hy)) s' hs'
 |swap x y l=>
  intro hn hP s hs
  have hx:=hP x List.mem_cons_self
  have hy:=hP y (List.mem_cons_of_mem _ List.mem_cons_self)
  have hne:key x≠key y:=by
   rw[List.map_cons,List.nodup_cons] at hn
   intro e
   apply hn.1
   rw[e]
   exact List.mem_cons_self
  have:=h2 x y hx hy hne s hs
  simp only[dR]
  rw[←Option.bind_assoc,←this,Option.bind_assoc]
 |trans p1 p2 ih1 ih2=>
  intro hn hP s hs
  exact(ih1 ((p2.map key).nodup_iff.2 hn) (λx hx=>hP x (p2.mem_iff.1 hx)) s hs).trans (ih2 hn hP s hs)
theorem or3(c a b:Bool):((c||a)||b)=((c||b)||a):=by cases c<;>cases a<;>cases b<;>rfl
structure P2(os:List Obj)(rg:List aa)(p:(Int×Int)×aa):Prop where
 h:∃o g,idx os p.1.1=some o∧idx rg p.1.1=some g∧0≤p.1.2∧p.1.2<o.size∧Ne p.2∧Isub p.2 g
theorem PlOk.p2{os:List Obj}{rg:List aa}{S:List (List aa)}(hs:Sh os rg S){pl:Pl2}(h:PlOk rg S pl):∀p∈pl,P2 os rg p:=λp hp=>by
 obtain⟨r,g,q1,q2,q3,q4,q5,q6,q7⟩:=h.at_ p hp
 obtain⟨o,ho,_⟩:=aE (L:=os) (i:=p.1.1) ⟨(cm q1).1,by rw[←hs.sl_];exact(cm q1).2⟩
 have:=hs.row _ _ _ (aU q1) (aU ho)
 exact⟨o,g,ho,q2,q3,oM,q5,q6,q7⟩
theorem Sh.set{os:List Obj}{rg:List aa}{S:List (List aa)}(h:Sh os rg S){o:Int}{row:List aa}{g y:aa}(h1:idx S o=some row)(h3:idx rg o=some g)(hy:Ne y)(hg:Isub y g)(k:Nat):Sh os rg (S.set o.toNat (row.set k y)):=by
 have hl:=cm h1
 refine⟨h.rl,h.rne,h.ol,h.os1,by rw[List.length_set];exact h.sl_,λi r ob hr ho=>?_,λi r gg v hr hgg hv=>?_⟩
 ·rw[List.getElem?_set] at hr
  by_cases e:o.toNat=i
  ·rw[if_pos e,if_pos oM,au] at hr
   rw[←hr,List.length_set]
   exact h.row i row ob (by rw[←e];exact aU h1) ho
  ·rw[if_neg e] at hr
   exact h.row i r ob hr ho
 ·rw[List.getElem?_set] at hr
  by_cases e:o.toNat=i
  ·rw[if_pos e,if_pos oM,au] at hr
   have e2:gg=g:=by have:=aU h3;rw[e,hgg,au] at this;exact this
   subst e2
   rw[←hr] at hv
   rcases List.mem_or_eq_of_mem_set hv with hv|hv
   ·exact h.sne i row gg v (by rw[←e];exact aU h1) hgg hv
   ·rw[hv];exact⟨hy,hg.1,hg.2⟩
  ·rw[if_neg e] at hr
   exact h.sne i r gg v hr hgg hv
structure St2(w:Bool)(os:List Obj)(rg:List aa)(p:(Int×Int)×aa)(S:List (List aa))(row:List aa)(x g:aa):Prop where
 h1:idx S p.1.1=some row
 h2:idx row p.1.2=some x
 h3:idx rg p.1.1=some g
 hx:Ne x
 hv:Ne p.2
 gu:GU w g x p.2
 hg:Isub (gU w g x p.2) g
theorem st2(w:Bool){os:List Obj}{rg:List aa}{p:(Int×Int)×aa}{S:List (List aa)}(hs:Sh os rg S)(hp:P2 os rg p):∃row x g,St2 w os rg p S row x g:=by
 obtain⟨o,g,q1,q2,q3,q4,q5,q6⟩:=hp.h
 obtain⟨row,g',r1,r2,r3,r4,r5⟩:=hs.at q1
 rw[q2,au] at r2
 subst r2
 obtain⟨x,hx,hxm⟩:=aE (L:=row) (i:=p.1.2) ⟨q3,oM⟩
 obtain⟨hxn,hx1,hx2⟩:=r5 x hxm
 have gu:=oT (w:=w) hxn q5 r4.2
 exact⟨row,x,g,r1,hx,q2,hxn,q5,gu,gu.in_ ⟨hx1,hx2⟩ q6⟩
theorem St2.eq{w c:Bool}{os:List Obj}{rg:List aa}{p:(Int×Int)×aa}{S:List (List aa)}{row:List aa}{x g:aa}(h:St2 w os rg p S row x g):f26_m2 rg w p (c,S)=some (c|| !f65 p.2 x,S.set p.1.1.toNat (row.set p.1.2.toNat (gU w g x p.2))):=oH h.h1 h.h2 h.h3 h.hx h.hv
theorem qN{w c:Bool}{os:List Obj}{rg:List aa}{S:List (List aa)}(hs:Sh os rg S){l L:Pl2}(hp:l.Perm L)(hn:(L.map (·.1)).Nodup)(hP:∀p∈L,P2 os rg p):dR (f26_m2 rg w) l (c,S)=dR (f26_m2 rg w) L (c,S):=by
 refine mG (λp=>p.1) (f26_m2 rg w) (λs=>Sh os rg s.2) (P2 os rg) (λp hp s hs=>?_) (λp q hp hq hne s hs=>?_) hp hn hP (c,S) hs
 ·obtain⟨row,x,g,h⟩:=st2 w hs hp
  exact⟨_,h.eq,hs.set h.h1 h.h3 h.gu.ne h.hg _⟩
 ·obtain⟨row,x,g,h⟩:=st2 w hs hp
  obtain⟨row',x',g',h'⟩:=st2 w hs hq
  obtain⟨c,S⟩:=s
  rw[h.eq,h'.eq,bnS,bnS]
  have a0:=cm h.h1
  have a1:=cm h'.h1
  have b0:=cm h.h2
  have b1:=cm h'.h2
  by_cases e:p.1.1=q.1.1
  ·have er:row'=row:=by have:=h'.h1;rw[←e,h.h1,au] at this;exact this.symm
   have eg:g'=g:=by have:=h'.h3;rw[←e,h.h3,au] at this;exact this.symm
   subst er
   subst eg
   have ek:p.1.2≠q.1.2:=λhh=>hne (Prod.ext e hh)
   rw[oH (p:=q) (row:=row'.set p.1.2.toNat (gU w g' x p.2)) (x:=x') (g:=g') (by rw[←e];exact ik h.h1) (by rw[dJ h.h2 b1.1 ek];exact h'.h2) h'.h3 h'.hx h'.hv,oH (p:=p) (row:=row'.set q.1.2.toNat (gU w g' x' q.2)) (x:=x) (g:=g') (by rw[e];exact ik h'.h1) (by rw[dJ h'.h2 b0.1 (Ne.symm ek)];exact h.h2) h.h3 h.hx h.hv]
   rw[e,List.set_set,List.set_set,List.set_comm _ _ oM,or3]
  ·rw[oH (p:=q) (row:=row') (x:=x') (g:=g') (by rw[dJ h.h1 a1.1 e];exact h'.h1) h'.h2 h'.h3 h'.hx h'.hv,oH (p:=p) (row:=row) (x:=x) (g:=g) (by rw[dJ h'.h1 a0.1 (Ne.symm e)];exact h.h1) h.h2 h.h3 h.hx h.hv]
   rw[List.set_comm _ _ oM,or3]
structure FOk(n:Nat)(F:List aj):Prop where
 l:F.length=n
 h:∀f∈F,(f.reached=true∧RNe f.r)∨f=⟨false,λ_=>⟨0,0⟩⟩
structure P3(n:Nat)(p:Int×Rgs):Prop where
 r:0≤p.1∧p.1<n
 ne:RNe p.2
theorem WyOk.p3{n:Nat}{wy:Wy}(h:WyOk n wy):∀p∈wy,P3 n p:=λp hp=>⟨h.at_ p hp,h.ne p hp⟩
theorem FOk.ne{n:Nat}{F:List aj}(h:FOk n F){f:aj}(hf:f∈F)(hr:f.reached=true):RNe f.r:=by
 rcases h.h f hf with h|h
 ·exact h.2
 ·rw[h] at hr;cases hr
theorem gR_ne{w:Bool}{r v:Rgs}(hr:RNe r)(hv:RNe v)(i:Nat):RNe (gR w r v i):=λq hq=>by
 unfold gR
 split
 ·exact(oT (hr q hq) (hv q hq) rq).ne
 ·exact hr q hq
theorem vD{w:Bool}{a:Int}{p:Int×Rgs}{f:aj}(hf:f.reached=true→RNe f.r)(hp:RNe p.2):(U3 w a p f).reached=true∧RNe (U3 w a p f).r:=by
 unfold U3
 cases h:f.reached with
 |true=>exact⟨rfl,gR_ne (hf h) hp _⟩
 |false=>exact⟨rfl,hp⟩
theorem FOk.set{n:Nat}{F:List aj}(h:FOk n F){f:aj}(hf:f.reached=true∧RNe f.r)(i:Nat):FOk n (F.set i f):=⟨by rw[List.length_set];exact h.l,λg hg=>by
 rcases List.mem_or_eq_of_mem_set hg with hg|hg
 ·exact h.h g hg
 ·rw[hg];exact .inl hf⟩
theorem qM{w c:Bool}{a:Int}{n:Nat}{F:List aj}(hs:FOk n F){l L:Wy}(hp:l.Perm L)(hn:(L.map (·.1)).Nodup)(hP:∀p∈L,P3 n p):dR (f26_m3 w a) l (c,F)=dR (f26_m3 w a) L (c,F):=by
 refine mG (λp=>p.1) (f26_m3 w a) (λs=>FOk n s.2) (P3 n) (λp hp s hs=>?_) (λp q hp hq hne s hs=>?_) hp hn hP (c,F) hs
 ·obtain⟨f,hf,hm⟩:=aE (L:=s.2) (i:=p.1) ⟨hp.r.1,by rw[hs.l];exact hp.r.2⟩
  exact⟨_,mB hf (hs.ne hm) hp.ne,hs.set (vD (hs.ne hm) hp.ne) _⟩
 ·obtain⟨c,F⟩:=s
  obtain⟨f,hf,hm⟩:=aE (L:=F) (i:=p.1) ⟨hp.r.1,by rw[hs.l];exact hp.r.2⟩
  obtain⟨f',hf',hm'⟩:=aE (L:=F) (i:=q.1) ⟨hq.r.1,by rw[hs.l];exact hq.r.2⟩
  rw[mB hf (hs.ne hm) hp.ne,mB hf' (hs.ne hm') hq.ne,bnS,bnS,mB (f:=f') (by rw[dJ hf hq.r.1 hne];exact hf') (hs.ne hm') hq.ne,mB (f:=f) (by rw[dJ hf' hp.r.1 (Ne.symm hne)];exact hf) (hs.ne hm) hp.ne]
  have:=hp.r.1
  have:=hq.r.1
  rw[List.set_comm _ _ (by intro e;apply hne;omega),or3]
theorem m4:∀(L:List Nat)(i:Nat)(x y:Nat),L[i]? =some x→(L.set i y).sum+x=L.sum+y
 |[],i,x,y,h=>by simp at h
 |a::L,0,x,y,h=>by
  simp only[List.getElem?_cons_zero,au] at h
  subst h
  simp only[List.set_cons_zero,List.sum_cons];omega
 |a::L,i+1,x,y,h=>by
  simp only[List.getElem?_cons_succ] at h
  have:=m4 L i x y h
  simp only[List.set_cons_succ,List.sum_cons];omega
def pS:List (List aa)→List aa→Nat
 |r::S,g::G=>(r.map (pv g)).sum+pS S G
 |_,_=>0
theorem s7:∀(S:List (List aa))(G:List aa)(o:Nat)(row row':List aa)(g:aa),S[o]? =some row→G[o]? =some g→pS (S.set o row') G+(row.map (pv g)).sum=pS S G+(row'.map (pv g)).sum
 |[],_,o,_,_,_,h,_=>by simp at h
 |_::_,[],o,_,_,_,_,h=>by simp at h
 |a::S,b::G,0,row,row',g,h,h2=>by
  simp only[List.getElem?_cons_zero,au] at h h2
  subst h
  subst h2
  simp only[List.set_cons_zero,pS];omega
 |a::S,b::G,o+1,row,row',g,h,h2=>by
  simp only[List.getElem?_cons_succ] at h h2
  have:=s7 S G o row row' g h h2
  simp only[List.set_cons_succ,pS];omega
theorem um{row:List aa}{k:Nat}{x y g:aa}(h:row[k]? =some x):((row.set k y).map (pv g)).sum+pv g x=(row.map (pv g)).sum+pv g y:=by
 rw[List.map_set]
 exact m4 _ _ _ _ (by rw[List.getElem?_map,h];rfl)
theorem uv{S:List (List aa)}{G:List aa}{o k:Int}{row:List aa}{x y g:aa}(h1:idx S o=some row)(h2:idx row k=some x)(h3:idx G o=some g):pS (S.set o.toNat (row.set k.toNat y)) G+pv g x=pS S G+pv g y:=by
 have a:=s7 S G o.toNat row (row.set k.toNat y) g (aU h1) (aU h3)
 have b:=um (y:=y) (g:=g) (aU h2)
 omega
def s16(r:Rgs):Nat→Nat
 |0=>0
 |i+1=>s16 r i+pv MB (r i)
def pF(f:aj):Nat:=bif f.reached then s16 f.r 16 else 65
def pFs(F:List aj):Nat:=(F.map pF).sum
theorem nc(r:Rgs):∀i,s16 r i≤4*i
 |0=>Nat.le_refl _
 |i+1=>by have:=nc r i;have:=vg MB (r i);simp only[s16];omega
theorem pF_le(f:aj):pF f≤65:=by
 unfold pF
 cases f.reached
 ·exact Nat.le_refl _
 ·have:=nc f.r 16;simp only[cdT];omega
theorem sP:∀(L:List aj),(L.map pF).sum≤65*L.length
 |[]=>sM
 |f::L=>by have:=sP L;have:=pF_le f;simp only[List.map_cons,List.sum_cons,List.length_cons];omega
theorem uw{F:List aj}{b:Int}{f f':aj}(h:idx F b=some f):pFs (F.set b.toNat f')+pF f=pFs F+pF f':=by
 unfold pFs
 rw[List.map_set]
 exact m4 _ _ _ _ (by rw[List.getElem?_map,aU h];rfl)
def RSub(r v:Rgs):Prop:=∀q,q<16→Isub (r q) (v q)
theorem oq{r v:Rgs}(h:RSub r v):∀i,i≤16→s16 v i≤s16 r i
 |0,_=>Nat.le_refl _
 |i+1,hi=>by have:=oq h i oM;have:=qF (m:=MB) (h i oM);simp only[s16];omega
theorem vp{w:Bool}{r v:Rgs}(hr:RNe r)(hv:RNe v):RSub r (gR w r v 16)∧RSub v (gR w r v 16):=by
 constructor
 ·intro q hq
  unfold gR;rw[if_pos hq]
  exact(oT (hr q hq) (hv q hq) rq).x_
 ·intro q hq
  unfold gR;rw[if_pos hq]
  exact(oT (hr q hq) (hv q hq) rq).v_
theorem vq{r v:Rgs}(hr:RNe r)(hv:RNe v):∀i,i≤16→s16 (gR true r v 16) i+(iv r v i).toNat≤s16 r i
 |0,_=>by simp[s16,iv]
 |i+1,hi=>by
  have ih:=vq hr hv i oM
  have g:=oT (w:=true) (hr i oM) (hv i oM) rq
  have e:gR true r v 16 i=gU true MB (r i) (v i):=by unfold gR;rw[if_pos oM]
  simp only[s16,iv,e]
  have h1:=g.le
  cases h65:f65 (v i) (r i) with
  |true=>
   simp only[Bool.not_true,Bool.or_false]
   omega
  |false=>
   have h2:=g.lt rfl h65
   simp only[Bool.not_false,Bool.or_true,Bool.toNat_true]
   omega
theorem ja{r v:Rgs}(hv:RNe v):∀i,i≤16→(iv r v i=false↔∀q,q<i→Isub (v q) (r q))
 |0,_=>by simp[iv]
 |i+1,hi=>by
  simp only[iv,Bool.or_eq_false_iff,Bool.not_eq_false',ja hv i oM,f65_sub (hv i oM)]
  constructor
  ·intro h q hq
   by_cases e:q=i
   ·rw[e];exact h.2
   ·exact h.1 q oM
  ·intro h
   exact⟨λq hq=>h q oM,h i oM⟩
theorem qW{w:Bool}{r v:Rgs}(hv:RNe v)(h:RSub v r)(i:Nat)(hi:i≤16):gR w r v i=r:=by
 funext q
 unfold gR
 split
 ·exact kF ((f65_sub (hv q oM)).2 (h q oM))
 ·rfl
def In3(F:List aj)(p:Int×Rgs):Prop:=∃f,idx F p.1=some f∧f.reached=true∧RSub p.2 f.r
def In2(S:List (List aa))(p:(Int×Int)×aa):Prop:=∃row x,idx S p.1.1=some row∧idx row p.1.2=some x∧f65 p.2 x=true
structure FUp(F F':List aj):Prop where
 l:F'.length=F.length
 h:∀b f,idx F b=some f→∃f',idx F' b=some f'∧(f.reached=true→f'.reached=true∧RSub f.r f'.r)
theorem RSub.refl(r:Rgs):RSub r r:=λ_ _=>Isub.refl _
theorem RSub.trans{a b c:Rgs}(h:RSub a b)(g:RSub b c):RSub a c:=λq hq=>(h q hq).trans (g q hq)
theorem FUp.refl(F:List aj):FUp F F:=⟨rfl,λb f h=>⟨f,h,λe=>⟨e,RSub.refl _⟩⟩⟩
theorem FUp.trans{F G H:List aj}(h:FUp F G)(g:FUp G H):FUp F H:=⟨g.l.trans h.l,λb f hf=>by
 obtain⟨f',h1,h2⟩:=h.h b f hf
 obtain⟨f'',h3,h4⟩:=g.h b f' h1
 exact⟨f'',h3,λe=>⟨(h4 (h2 e).1).1,(h2 e).2.trans (h4 (h2 e).1).2⟩⟩⟩
theorem In3.up{F F':List aj}{p:Int×Rgs}(h:In3 F p)(g:FUp F F'):In3 F' p:=by
 obtain⟨f,h1,h2,h3⟩:=h
 obtain⟨f',h4,h5⟩:=g.h _ f h1
 exact⟨f',h4,(h5 h2).1,h3.trans (h5 h2).2⟩
structure St3(w:Bool)(a:Int)(n:Nat)(p:Int×Rgs)(F F':List aj):Prop where
 ok:FOk n F'
 up:FUp F F'
 in_:In3 F' p
 le:w=true→pFs F'≤pFs F
 eq:w=true→pFs F'=pFs F→(∀b,b≤a→idx F' b=idx F b)∧∀b f f',idx F b=some f→idx F' b=some f'→f'.reached=f.reached
theorem jn{α:Type}{L:List α}{i j:Int}{x y:α}(h:idx L i=some x):idx (L.set i.toNat y) j=if j=i then some y else idx L j:=by
 by_cases e:j=i
 ·rw[if_pos e,e];exact ik h
 ·rw[if_neg e]
  by_cases hj:0≤j
  ·exact dJ h hj (Ne.symm e)
  ·unfold idx;rw[dcF hj];rfl
theorem st3{w:Bool}{a:Int}{n:Nat}{p:Int×Rgs}{F:List aj}(hs:FOk n F)(hp:P3 n p)(c:Bool):∃c' F',f26_m3 w a p (c,F)=some (c',F')∧St3 w a n p F F'∧(In3 F p→c'=c∧F'=F):=by
 obtain⟨f,hf,hm⟩:=aE (L:=F) (i:=p.1) ⟨hp.r.1,by rw[hs.l];exact hp.r.2⟩
 refine⟨_,_,mB hf (hs.ne hm) hp.ne,?_,?_⟩
 ·have hu:=vD (w:=w) (a:=a) (hs.ne hm) hp.ne
  have hpot:=uw (f':=U3 w a p f) hf
  have hsub:f.reached=true→RSub f.r (U3 w a p f).r:=λe=>by
   unfold U3;rw[e];exact(vp (hs.ne hm e) hp.ne).1
  have hple:pF (U3 w a p f)≤pF f:=by
   unfold pF
   rw[hu.1]
   cases e:f.reached with
   |true=>exact oq (hsub e) 16 (Nat.le_refl _)
   |false=>have:=nc (U3 w a p f).r 16;simp only[cdT,cdF];omega
  refine⟨hs.set hu _,⟨List.length_set,λb g hg=>?_⟩,⟨_,ik hf,hu.1,?_⟩,λ_=>oM,λhw he=>?_⟩
  ·rw[jn hf]
   by_cases e:b=p.1
   ·rw[if_pos e]
    have:g=f:=by rw[e,hf,au] at hg;exact hg.symm
    subst this
    exact⟨_,rfl,λe=>⟨hu.1,hsub e⟩⟩
   ·rw[if_neg e]
    exact⟨g,hg,λe=>⟨e,RSub.refl _⟩⟩
  ·unfold U3
   cases e:f.reached with
   |true=>exact(vp (hs.ne hm e) hp.ne).2
   |false=>exact RSub.refl _
  ·have hpe:pF (U3 w a p f)=pF f:=oM
   cases e:f.reached with
   |false=>
    unfold pF at hpe
    rw[hu.1,e] at hpe
    have:=nc (U3 w a p f).r 16
    simp only[cdT,cdF] at hpe
    omega
   |true=>
    refine⟨λb hb=>?_,λb g g' hg hg'=>?_⟩
    ·rw[jn hf]
     by_cases eb:b=p.1
     ·rw[if_pos eb]
      have hd:decide (p.1≤a)=true:=dcT oM
      have key:=vq (hs.ne hm e) hp.ne 16 (Nat.le_refl _)
      have hU:U3 w a p f=⟨true,gR true f.r p.2 16⟩:=by unfold U3;rw[e,hw,hd];rfl
      unfold pF at hpe
      rw[hU,e] at hpe
      simp only[cdT] at hpe
      have hany:iv f.r p.2 16=false:=by
       cases h:iv f.r p.2 16 with
       |false=>rfl
       |true=>rw[h,Bool.toNat_true] at key;omega
      have hsub2:RSub p.2 f.r:=(ja hp.ne 16 (Nat.le_refl _)).1 hany
      rw[hU,qW hp.ne hsub2 16 (Nat.le_refl _),eb,hf,←e]
     ·rw[if_neg eb]
    ·rw[jn hf] at hg'
     by_cases eb:b=p.1
     ·rw[if_pos eb,au] at hg'
      rw[eb,hf,au] at hg
      rw[←hg',←hg,hu.1,e]
     ·rw[if_neg eb,hg,au] at hg'
      rw[hg']
 ·intro hin
  obtain⟨f',h1,h2,h3⟩:=hin
  rw[hf,au] at h1
  subst h1
  have hU:U3 w a p f=f:=by unfold U3;rw[h2,cdT,qW hp.ne h3 16 (Nat.le_refl _),←h2]
  have hc:ch3 p f=false:=by unfold ch3;rw[h2,cdT];exact(ja hp.ne 16 (Nat.le_refl _)).2 h3
  rw[hU,hc,eW (aU hf),Bool.or_false]
  exact⟨rfl,rfl⟩
structure All3(w:Bool)(a:Int)(n:Nat)(L:Wy)(F F':List aj):Prop where
 ok:FOk n F'
 up:FUp F F'
 in_:∀p∈L,In3 F' p
 le:w=true→pFs F'≤pFs F
 eq:w=true→pFs F'=pFs F→(∀b,b≤a→idx F' b=idx F b)∧∀b f f',idx F b=some f→idx F' b=some f'→f'.reached=f.reached
theorem wx{w:Bool}{a:Int}{n:Nat}:∀(L:Wy)(F:List aj)(c:Bool),FOk n F→(∀p∈L,P3 n p)→∃c' F',dR (f26_m3 w a) L (c,F)=some (c',F')∧All3 w a n L F F'∧((∀p∈L,In3 F p)→c'=c∧F'=F)
 |[],F,c,hs,_=>⟨c,F,rfl,⟨hs,FUp.refl _,λ_ h=>(by cases h),λ_=>Nat.le_refl _,λ_ _=>⟨λ_ _=>rfl,λb f f' h h'=>by rw[h,au] at h';rw[h']⟩⟩,λ_=>⟨rfl,rfl⟩⟩
 |p::L,F,c,hs,hP=>by
  obtain⟨c1,F1,e1,s1,i1⟩:=st3 (w:=w) (a:=a) hs (hP p List.mem_cons_self) c
  obtain⟨c2,F2,e2,s2,i2⟩:=wx L F1 c1 s1.ok λq hq=>hP q (List.mem_cons_of_mem _ hq)
  refine⟨c2,F2,by rw[dR,e1,bnS,e2],⟨s2.ok,s1.up.trans s2.up,λq hq=>?_,λhw=>?_,λhw he=>?_⟩,λh=>?_⟩
  ·rcases List.mem_cons.1 hq with rfl|hq
   ·exact s1.in_.up s2.up
   ·exact s2.in_ q hq
  ·have:=s1.le hw
   have:=s2.le hw
   omega
  ·have:=s1.le hw
   have:=s2.le hw
   have a1:=s1.eq hw oM
   have a2:=s2.eq hw oM
   refine⟨λb hb=>(a2.1 b hb).trans (a1.1 b hb),λb f f' hf hf'=>?_⟩
   obtain⟨g,hg,_⟩:=s1.up.h b f hf
   exact(a2.2 b g f' hg hf').trans (a1.2 b f g hf hg)
  ·obtain⟨q1,q2⟩:=i1 (h p List.mem_cons_self)
   subst q2
   obtain⟨q3,q4⟩:=i2 λq hq=>h q (List.mem_cons_of_mem _ hq)
   exact⟨q3.trans q1,q4⟩
theorem wz{w:Bool}{os:List Obj}{rg:List aa}:∀(L:Pl2)(S:List (List aa))(c:Bool),Sh os rg S→(∀p∈L,P2 os rg p)→∃c' S',dR (f26_m2 rg w) L (c,S)=some (c',S')∧Sh os rg S'∧(w=true→pS S' rg≤pS S rg)∧(w=true→pS S' rg=pS S rg→S'=S∧∀p∈L,In2 S p)∧((∀p∈L,In2 S p)→c'=c∧S'=S)
 |[],S,c,hs,_=>⟨c,S,rfl,hs,λ_=>Nat.le_refl _,λ_ _=>⟨rfl,λ_ h=>(by cases h)⟩,λ_=>⟨rfl,rfl⟩⟩
 |p::L,S,c,hs,hP=>by
  obtain⟨row,x,g,h⟩:=st2 w hs (hP p List.mem_cons_self)
  have hpot:=uv (y:=gU w g x p.2) h.h1 h.h2 h.h3
  have hle:=h.gu.le
  obtain⟨c2,S2,e2,s2,l2,q2,i2⟩:=wz (w:=w) L _ (c|| !f65 p.2 x) (hs.set h.h1 h.h3 h.gu.ne h.hg p.1.2.toNat) λq hq=>hP q (List.mem_cons_of_mem _ hq)
  have same:f65 p.2 x=true→S.set p.1.1.toNat (row.set p.1.2.toNat (gU w g x p.2))=S:=λe=>by rw[kF e,eW (aU h.h2),eW (aU h.h1)]
  refine⟨c2,S2,by rw[dR,h.eq,bnS,e2],s2,λhw=>?_,λhw he=>?_,λhin=>?_⟩
  ·have:=l2 hw
   omega
  ·have:=l2 hw
   cases h65:f65 p.2 x with
   |false=>have:=h.gu.lt hw h65;omega
   |true=>
    have e:=same h65
    rw[e] at q2 this hpot
    obtain⟨z1,z2⟩:=q2 hw oM
    refine⟨z1,λq hq=>?_⟩
    rcases List.mem_cons.1 hq with rfl|hq
    ·exact⟨row,x,h.h1,h.h2,h65⟩
    ·exact z2 q hq
  ·obtain⟨row',x',y1,y2,y3⟩:=hin p List.mem_cons_self
   have er:row'=row:=by rw[h.h1,au] at y1;exact y1.symm
   subst er
   have ex:x'=x:=by rw[h.h2,au] at y2;exact y2.symm
   subst ex
   have e:=same y3
   rw[e] at i2
   obtain⟨z1,z2⟩:=i2 λq hq=>hin q (List.mem_cons_of_mem _ hq)
   rw[y3] at z1
   exact⟨by rw[z1];simp,z2⟩
structure Cx(t:al):Prop where
 bd:Bdt t
 ex:t.excs≤64
 io:∀x∈t.insns,IOk t x
def Sta(t:al)(rg:List aa)(a:Int)(F:List aj)(S:List (List aa)):Prop:=∀f x z,idx F a=some f→f.reached=true→idx t.insns a=some x→mX t rg F S a f.r x=some z→(∀p∈z.1,In2 S p)∧(∀p∈z.2,In3 F p)
structure Post(t:al)(rg:List aa)(w:Bool)(i:Int)(F:List aj)(S:List (List aa))(F':List aj)(S':List (List aa)):Prop where
 ok:FOk t.insns.length F'
 sh:Sh t.objs rg S'
 up:FUp F F'
 le:w=true→pS S' rg+pFs F'≤pS S rg+pFs F
 eq:w=true→pS S' rg+pFs F'=pS S rg+pFs F→S'=S∧(∀b,b<i→idx F' b=idx F b)∧(∀b f f',idx F b=some f→idx F' b=some f'→f'.reached=f.reached)∧∀a,i≤a→Sta t rg a F' S'
theorem sO{t:al}{rg:List aa}{w:Bool}(cx:Cx t){fc:List aj}(hfc:fc.length=t.insns.length)(k:Bool→List aj→List (List aa)→Int→Rgs→Option (Bool×Int×Rgs×List aj×List (List aa))):∀(n i:Nat)(c:Bool)(F:List aj)(S:List (List aa))(p:Int)(r:Rgs),FOk t.insns.length F→Sh t.objs rg S→i≤t.insns.length→t.insns.length<n+i→∃c' F' S' p' r',f26_l1 t rg fc w k n c (i:Int) F S p r=k c' F' S' p' r'∧Post t rg w i F S F' S'∧((∀a,(i:Int)≤a→Sta t rg a F S)→c'=c∧F'=F∧S'=S)
 |0,i,_,_,_,_,_,_,_,_,h=>oM
 |n+1,i,c,F,S,p,r,hF,hS,hi,h=>by
  have hbn:=cx.bd.n
  rw[f26_l1,hfc]
  by_cases hh:i<t.insns.length
  ·rw[ltT hh,cdT]
   simp only[ap]
   obtain⟨f,hf,hfm⟩:=aE (L:=F) (i:=(i:Int)) ⟨oM,by rw[hF.l];omega⟩
   rw[hf,bnS,wN oM]
   cases hr:f.reached with
   |false=>
    obtain⟨c',F',S',p',r',e,ps,pq⟩:=sO cx hfc k n (i+1) c F S p r hF hS oM oM
    refine⟨c',F',S',p',r',e,⟨ps.ok,ps.sh,ps.up,ps.le,λhw he=>?_⟩,λhst=>pq λa ha=>hst a oM⟩
    obtain⟨q1,q2,q3,q4⟩:=ps.eq hw he
    refine⟨q1,λb hb=>q2 b oM,q3,λa ha=>?_⟩
    by_cases ea:a=(i:Int)
    ·subst ea
     intro f' x z hf' hr' _ _
     have:=q3 _ _ _ hf hf'
     rw[hr',hr] at this
     cases this
    ·exact q4 a oM
   |true=>
    have hrn:=hF.ne hfm hr
    obtain⟨x,hx,hxm⟩:=aE (L:=t.insns) (i:=(i:Int)) ⟨oM,oM⟩
    obtain⟨w0,e58,hw0⟩:=f58_ok (t:=t) (rg:=rg) (fc:=F) (sl:=S) (pc:=(i:Int)) (rr:=f.r) (pl:=[]) WyOk.nil cx.bd.handlers true
    obtain⟨z,efm,hz1,hz2⟩:=vu (rg:=rg) (fc:=F) (sl:=S) (pc:=(i:Int)) (rr:=f.r) (cx.io x hxm) cx.bd cx.ex hS hw0 hrn
    have hways:mX t rg F S (i:Int) f.r x=some (z.2.1,z.2.2):=by unfold mX;rw[e58,bnS,efm,bnS]
    rw[Bool.not_true,cdF,bnS,e58,bnS,hx,bnS,f59_eq,bnS,efm,bnS]
    have hP2:=hz1.p2 hS
    have hP3:=hz2.p3
    rw[hF.l] at hP3
    obtain⟨c1,S1,g1,s1,l1,q1,i1⟩:=wz (w:=w) z.2.1 S c hS hP2
    rw[ga (s':=(c1,S1)) λl hl=>(qN hS hl hz1.nd hP2).trans g1]
    dsimp only
    obtain⟨c2,F1,g2,s2,i2⟩:=wx (w:=w) (a:=(i:Int)) z.2.2 F c1 hF hP3
    rw[ga (s':=(c2,F1)) λl hl=>(qM hF hl hz2.nd hP3).trans g2]
    dsimp only
    obtain⟨c',F',S',p',r',e,ps,pq⟩:=sO cx hfc k n (i+1) c2 F1 S1 (i:Int) z.1 s2.ok s1 oM oM
    refine⟨c',F',S',p',r',e,⟨ps.ok,ps.sh,s2.up.trans ps.up,λhw=>?_,λhw he=>?_⟩,λhst=>?_⟩
    ·have:=l1 hw
     have:=s2.le hw
     have:=ps.le hw
     omega
    ·have a1:=l1 hw
     have a2:=s2.le hw
     have a3:=ps.le hw
     obtain⟨b1,b2⟩:=q1 hw oM
     obtain⟨b3,b4⟩:=s2.eq hw oM
     obtain⟨b5,b6,b7,b8⟩:=ps.eq hw oM
     refine⟨b5.trans b1,λb hb=>(b6 b oM).trans (b3 b oM),λb f f' hf hf'=>?_,λa ha=>?_⟩
     ·obtain⟨g,hg,_⟩:=s2.up.h b f hf
      exact(b7 b g f' hg hf').trans (b4 b f g hf hg)
     ·by_cases ea:a=(i:Int)
      ·subst ea
       intro f' x' z' hf' hr' hx' hz'
       rw[b6 _ oM,b3 _ (Int.le_refl _),hf,au] at hf'
       subst hf'
       rw[hx,au] at hx'
       subst hx'
       rw[b5,b1,sL (fd:=F) (by rw[ps.ok.l,hF.l]),hways,au] at hz'
       subst hz'
       rw[b5,b1]
       exact⟨b2,λp hp=>(s2.in_ p hp).up ps.up⟩
      ·exact b8 a oM
    ·obtain⟨d1,d2⟩:=hst (i:Int) (Int.le_refl _) f x _ hf hr hx hways
     obtain⟨j1,j2⟩:=i1 d1
     obtain⟨j3,j4⟩:=i2 d2
     subst j2
     subst j4
     obtain⟨k1,k2,k3⟩:=pq λa ha=>hst a oM
     exact⟨k1.trans (j3.trans j1),k2,k3⟩
  ·have:i=t.insns.length:=oM
   subst this
   rw[dcF oM,cdF]
   exact⟨c,F,S,p,r,rfl,⟨hF,hS,FUp.refl _,λ_=>Nat.le_refl _,λ_ _=>⟨rfl,λ_ _=>rfl,λb f f' h h'=>by rw[h,au] at h';rw[h'],λa ha f x z _ _ hx _=>by
    have:=cm hx
    omega⟩⟩,λ_=>⟨rfl,rfl,rfl⟩⟩
theorem f26_ok{t:al}{rg:List aa}(w:Bool)(cx:Cx t){F:List aj}{S:List (List aa)}(p:Int)(r:Rgs)(hF:FOk t.insns.length F)(hS:Sh t.objs rg S):∃c' F' S' p' r',f26 t rg p r F S w=some (c',p',r',F',S')∧Post t rg w 0 F S F' S'∧((∀a,0≤a→Sta t rg a F S)→c'=false∧F'=F∧S'=S):=by
 unfold f26
 rw[ap]
 obtain⟨c',F',S',p',r',e,q1,q2⟩:=sO (w:=w) cx hF.l (λchanged158 lw159 lw160 c014v161 c015v162=>some (changed158,c014v161,c015v162,lw159,lw160)) (Int.toNat ((F.length:Int) - 0)+1) 0 false F S p r hF hS oM (by rw[hF.l];simp)
 exact⟨c',F',S',p',r',e,q1,q2⟩
structure Rest(t:al)(rg:List aa)(F:List aj)(F':List aj)(S':List (List aa)):Prop where
 ok:FOk t.insns.length F'
 sh:Sh t.objs rg S'
 up:FUp F F'
theorem oe{t:al}{rg:List aa}(cx:Cx t)(k:List aj→List (List aa)→Int→Rgs→Option (List aj×List (List aa)×Int)):∀(d fuel:Nat)(n:Int)(F:List aj)(S:List (List aa))(p:Int)(r:Rgs),FOk t.insns.length F→Sh t.objs rg S→pS S rg+pFs F≤d→4<n→n+d+2<9223372036854775807→d+2≤fuel→∃F' S' p' r',f7_l6 t rg k fuel n F S p r=k F' S' p' r'∧Rest t rg F F' S':=by
 intro d
 induction d with
 |zero=>
  intro fuel n F S p r hF hS hd hn hn2 hfu
  obtain⟨m,rfl⟩:∃m,fuel=m+2:=⟨fuel - 2,oM⟩
  obtain⟨c1,F1,S1,p1,r1,e1,q1,_⟩:=f26_ok true cx p r hF hS
  rw[f7_l6,dcT oM,e1,bnS]
  dsimp only
  cases c1 with
  |false=>exact⟨F1,S1,p1,r1,rfl,q1.ok,q1.sh,q1.up⟩
  |true=>
   have:=q1.le rfl
   obtain⟨_,_,_,hst⟩:=q1.eq rfl oM
   obtain⟨c2,F2,S2,p2,r2,e2,q2,i2⟩:=f26_ok true cx p1 r1 q1.ok q1.sh
   obtain⟨z1,z2,z3⟩:=i2 hst
   rw[cdT,w64 (x:=n+1) oM oM,f7_l6,dcT oM,e2,bnS]
   dsimp only
   rw[z1,cdF]
   exact⟨F2,S2,p2,r2,rfl,q2.ok,q2.sh,q1.up.trans q2.up⟩
 |succ d ih=>
  intro fuel n F S p r hF hS hd hn hn2 hfu
  obtain⟨m,rfl⟩:∃m,fuel=m+2:=⟨fuel - 2,oM⟩
  obtain⟨c1,F1,S1,p1,r1,e1,q1,_⟩:=f26_ok true cx p r hF hS
  rw[f7_l6,dcT oM,e1,bnS]
  dsimp only
  cases c1 with
  |false=>exact⟨F1,S1,p1,r1,rfl,q1.ok,q1.sh,q1.up⟩
  |true=>
   have hle:=q1.le rfl
   rw[cdT,w64 (x:=n+1) oM oM]
   by_cases he:pS S1 rg+pFs F1=pS S rg+pFs F
   ·obtain⟨_,_,_,hst⟩:=q1.eq rfl he
    obtain⟨c2,F2,S2,p2,r2,e2,q2,i2⟩:=f26_ok true cx p1 r1 q1.ok q1.sh
    obtain⟨z1,z2,z3⟩:=i2 hst
    rw[f7_l6,dcT oM,e2,bnS]
    dsimp only
    rw[z1,cdF]
    exact⟨F2,S2,p2,r2,rfl,q2.ok,q2.sh,q1.up.trans q2.up⟩
   ·obtain⟨F',S',p',r',e,hr⟩:=ih (m+1) (n+1) F1 S1 p1 r1 q1.ok q1.sh oM oM (by push_cast at hn2;omega) oM
    exact⟨F',S',p',r',e,hr.ok,hr.sh,q1.up.trans hr.up⟩
theorem sU{t:al}{rg:List aa}(cx:Cx t)(k:List aj→List (List aa)→Int→Rgs→Option (List aj×List (List aa)×Int))(d:Nat)(hB:∀F S,FOk t.insns.length F→Sh t.objs rg S→pS S rg+pFs F≤d)(hd:d<4611686018427387904):∀(j fuel:Nat)(n:Int)(F:List aj)(S:List (List aa))(p:Int)(r:Rgs),FOk t.insns.length F→Sh t.objs rg S→5 - n≤j→1≤n→n≤5→d+10≤fuel+n→∃F' S' p' r',f7_l6 t rg k fuel n F S p r=k F' S' p' r'∧Rest t rg F F' S'
 |0,fuel,n,F,S,p,r,hF,hS,hj,h1,h5,hfu=>oe cx k d fuel n F S p r hF hS (hB F S hF hS) oM oM oM
 |j+1,fuel,n,F,S,p,r,hF,hS,hj,h1,h5,hfu=>by
  by_cases e5:n=5
  ·exact oe cx k d fuel n F S p r hF hS (hB F S hF hS) oM oM oM
  ·obtain⟨m,rfl⟩:∃m,fuel=m+1:=⟨fuel - 1,oM⟩
   obtain⟨c1,F1,S1,p1,r1,e1,q1,_⟩:=f26_ok false cx p r hF hS
   rw[f7_l6,dcF oM,e1,bnS]
   dsimp only
   cases c1 with
   |false=>exact⟨F1,S1,p1,r1,rfl,q1.ok,q1.sh,q1.up⟩
   |true=>
    rw[cdT,w64 (x:=n+1) oM oM]
    obtain⟨F',S',p',r',e,hr⟩:=sU cx k d hB hd j m (n+1) F1 S1 p1 r1 q1.ok q1.sh (by push_cast at hj;omega) oM oM (by push_cast at hfu;omega)
    exact⟨F',S',p',r',e,hr.ok,hr.sh,q1.up.trans hr.up⟩
theorem mk264{n:Int}(h0:0≤n)(h:n≤1000000):mc 264 n=true:=by
 unfold mc
 have:maxLen=9223372036854775807:=by decide
 rw[this,dcT h0,dcT (show n≤((9223372036854775807:Nat):Int) by omega),dcT oM]
 rfl
def pt(n:Int):aa:=⟨n,n⟩
def Rob(o:Obj):aa:=bif o.ptr then o.set_.foldl (λv n=>J v (pt (n+1))) (pt 0) else⟨o.lo,o.hi⟩
structure OOk(o:Obj):Prop where
 sz:1≤o.size∧o.size≤16384
 lh:o.lo≤o.hi
 i6: -9223372036854775808≤o.lo∧o.hi≤9223372036854775807
 len:o.set_.length≤4096
 set_:∀n∈o.set_,0≤n∧n≤4096
theorem ml{os:List Obj}:∀(L:List Int)(last:Int),fx os last L=true→-1≤last→∀n∈L,0≤n∧n<os.length
 |[],_,_,_,n,h=>by cases h
 |x::r,last,h,h1,n,hn=>by
  simp only[fx,Bool.and_eq_true,decide_eq_true_eq] at h
  have hx:0≤x∧x<os.length:=by
   have:=h.1.2
   unfold aim at this
   cases hi:idx os x with
   |none=>rw[hi] at this;cases this
   |some y=>exact cm hi
  rcases List.mem_cons.1 hn with rfl|hn
  ·exact hx
  ·exact ml r x h.2 oM n hn
theorem VT.oo{t:al}(h:VT t){o:Obj}(ho:o∈t.objs)(h6: -9223372036854775808≤o.lo∧o.hi≤9223372036854775807):OOk o:=by
 have h1:=h.o ho
 have h2:=h.objs
 refine⟨oM,oM,h6,oM,λn hn=>?_⟩
 have h3:=h.obj o ho
 unfold d5 at h3
 rw[Bool.and_eq_true] at h3
 cases hp:o.ptr with
 |false=>
  have:=h3.2
  rw[hp] at this
  simp only[Bool.not_false,cdT,decide_eq_true_eq] at this
  have:o.set_=[]:=List.eq_nil_of_length_eq_zero oM
  rw[this] at hn;cases hn
 |true=>
  have:=h3.2
  rw[hp] at this
  simp only[Bool.not_true,cdF,Bool.and_eq_true] at this
  have:=ml _ _ this.1 oM n hn
  omega
theorem oC{n:Int}(h:0≤n∧n≤4097):Ne (pt n):=by unfold Ne I6 pt;dsimp only;omega
theorem nw:∀(L:List Int)(a:aa),Ne a→(∀n∈L,0≤n∧n≤4096)→Ne (L.foldl (λv n=>J v (pt (n+1))) a)∧Isub a (L.foldl (λv n=>J v (pt (n+1))) a)∧∀n∈L,Isub (pt (n+1)) (L.foldl (λv n=>J v (pt (n+1))) a)
 |[],a,h,_=>⟨h,Isub.refl _,λ_ h=>by cases h⟩
 |x::L,a,h,hn=>by
  have hx:=hn x List.mem_cons_self
  obtain⟨j1,j2,j3,j4,j5,_,_⟩:=ff a (pt (x+1)) h (oC oM)
  obtain⟨k1,k2,k3⟩:=nw L _ j1 λn h=>hn n (List.mem_cons_of_mem _ h)
  refine⟨k1,Isub.trans ⟨j2,j4⟩ k2,λn hm=>?_⟩
  rcases List.mem_cons.1 hm with rfl|hm
  ·exact Isub.trans ⟨j3,j5⟩ k2
  ·exact k3 n hm
theorem vE{o:Obj}(h:OOk o):Ne (Rob o):=by
 unfold Rob
 cases o.ptr with
 |false=>exact⟨h.lh,h.i6⟩
 |true=>exact(nw _ _ (oC oM) h.set_).1
theorem u5{o:Obj}(h:OOk o){v:Int}(hv:fits o v=true):Ne (pt v)∧Isub (pt v) (Rob o):=by
 have key:Isub (pt v) (Rob o):=by
  unfold fits at hv
  unfold Rob
  cases hp:o.ptr with
  |false=>
   rw[hp] at hv
   simp only[cdF,Bool.and_eq_true,decide_eq_true_eq] at hv
   exact⟨hv.1,hv.2⟩
  |true=>
   rw[hp] at hv
   obtain⟨k1,k2,k3⟩:=nw o.set_ (pt 0) (oC oM) h.set_
   simp only[cdT,Bool.or_eq_true,decide_eq_true_eq,List.any_eq_true] at hv⊢
   rcases hv with hv|⟨n,hn,hv⟩
   ·rw[hv];exact k2
   ·have:=h.set_ n hn
    unfold f86 at hv
    rw[w64 oM oM,decide_eq_true_eq] at hv
    rw[←hv];exact k3 n hn
 have hr:=vE h
 refine⟨?_,key⟩
 unfold Ne I6 Isub pt at*
 dsimp only at*
 omega
theorem f25_eq{o:Obj}(h:OOk o):f25 o=some (Rob o):=by
 have hl:=h.len
 unfold f25 Rob
 cases o.ptr with
 |false=>rfl
 |true=>
  rw[Bool.not_true,cdF,cdT,ap]
  have key:∀(n i:Nat)(v:aa),i≤o.set_.length→o.set_.length<n+i→f25_l1 o (λc d=>some (aa.mk c d)) n (i:Int) v.lo v.hi=some ((o.set_.drop i).foldl (λv n=>J v (pt (n+1))) v):=by
   intro n
   induction n with
   |zero=>intro i v _ h;omega
   |succ n ih=>
    intro i v hi hn
    rw[f25_l1]
    by_cases hh:i<o.set_.length
    ·have:=h.set_ _ (List.getElem_mem hh)
     rw[ltT hh,cdT,aA hh,bnS,w64 oM oM,f57_1,bnS,wN oM,ih (i+1) _ oM oM,aK hh]
     rfl
    ·rw[dcF oM,cdF,List.drop_eq_nil_of_le oM]
     rfl
  have:=key (Int.toNat ((o.set_.length:Int) - 0)+1) 0 (pt 0) oM sM
  rw[List.drop_zero] at this
  exact this
theorem f29_J{a b:aa}(ha:Ne a)(hb:Ne b):f29 a b=J a b:=by
 have h1:=ha.1
 have h2:=hb.1
 have e1:f8 a=false:=dcF oM
 have e2:f8 b=false:=dcF oM
 obtain⟨_,j2,j3,j4,j5,j6,j7⟩:=ff a b ha hb
 unfold f29
 rw[e1,e2]
 simp only[cdF]
 have q1:(if b.lo<a.lo then b.lo else a.lo)=(J a b).lo:=by split<;>omega
 have q2:(if b.hi>a.hi then b.hi else a.hi)=(J a b).hi:=by split<;>omega
 rw[q1,q2]
theorem f10_eq{o:Obj}(h:OOk o):f10 o=some (Rob o):=by
 have hl:=h.len
 unfold f10 Rob
 cases o.ptr with
 |false=>rfl
 |true=>
  rw[Bool.not_true,cdF,cdT,ap]
  have key:∀(n i:Nat)(v:aa),Ne v→i≤o.set_.length→o.set_.length<n+i→f10_l1 o (λc d=>some (aa.mk c d)) n (i:Int) v.lo v.hi=some ((o.set_.drop i).foldl (λv n=>J v (pt (n+1))) v):=by
   intro n
   induction n with
   |zero=>intro i v _ _ h;omega
   |succ n ih=>
    intro i v hv hi hn
    rw[f10_l1]
    by_cases hh:i<o.set_.length
    ·have:=h.set_ _ (List.getElem_mem hh)
     have hp:=oC (n:=o.set_[i]+1) oM
     rw[ltT hh,cdT,aA hh,bnS,w64 (x:=o.set_[i]+1) oM oM,show f28 (o.set_[i]+1)=pt (o.set_[i]+1) from rfl,f29_J (a:=⟨v.lo,v.hi⟩) hv hp,wN oM,ih (i+1) _ (ff _ _ hv hp).1 oM oM,aK hh]
     rfl
    ·rw[dcF oM,cdF,List.drop_eq_nil_of_le oM]
     rfl
  have:=key 9223372036854775808 0 (pt 0) (oC oM) oM oM
  rw[List.drop_zero] at this
  exact this
def Fit(os:List Obj)(S:List (List Int)):Prop:=∀(i:Nat)(r:List Int)(o:Obj)(v:Int),S[i]? =some r→os[i]? =some o→v∈r→fits o v=true
theorem uP{t:al}(h:VT t):Fit t.objs (t.objs.map dI):=λi r o v hr ho hv=>by
 rw[List.getElem?_map,ho,Option.map_some,au] at hr
 rw[←hr] at hv
 unfold dI at hv
 have hv2:=(List.mem_replicate.1 hv).2
 rw[hv2]
 unfold uF
 cases hf:fits o 0 with
 |true=>exact hf
 |false=>
  rw[cdF]
  have h1:=h.o (List.mem_of_getElem? ho)
  unfold fits at hf⊢
  cases hp:o.ptr with
  |true=>rw[hp] at hf;simp at hf
  |false=>simp only[cdF,Bool.and_eq_true,decide_eq_true_eq];omega
theorem uO{os:List Obj}{S:List (List Int)}(h:Fit os S){x:bZ}(hx:dm os x=true):Fit os (oA S x):=λi r o v hr ho hv=>by
 unfold oA at hr
 rw[List.getElem?_set] at hr
 by_cases e:x.o.toNat=i
 ·rw[if_pos e] at hr
  split at hr
  ·rw[au] at hr
   rw[←hr] at hv
   rcases List.mem_or_eq_of_mem_set hv with hv|hv
   ·cases hs:S[x.o.toNat]? with
    |none=>rw[hs] at hv;cases hv
    |some r'=>
     rw[hs] at hv
     exact h i r' o v (by rw[←e];exact hs) ho hv
   ·unfold dm at hx
    rw[Bool.and_eq_true] at hx
    obtain⟨y,hy,_⟩:=ep hx.1
    have h2:=hx.2
    rw[hy] at h2
    have:y=o:=by have:=aU hy;rw[e,ho,au] at this;exact this.symm
    rw[hv,←this];exact h2
  ·cases hr
 ·rw[if_neg e] at hr
  exact h i r o v hr ho hv
theorem oW{os:List Obj}:∀(L:List bZ)(S:List (List Int)),Fit os S→(∀x∈L,dm os x=true)→Fit os (L.foldl oA S)
 |[],_,h,_=>h
 |x::L,S,h,hL=>oW L _ (uO h (hL x List.mem_cons_self)) λy hy=>hL y (List.mem_cons_of_mem _ hy)
theorem sg{t:al}(h:VT t):Fit t.objs (store t):=oW _ _ (uP h) (gV _ _ h.inits)
theorem ms(g:aa):∀r:List aa,(r.map (pv g)).sum≤4*r.length
 |[]=>sM
 |x::r=>by have:=ms g r;have:=vg g x;simp only[List.map_cons,List.sum_cons,List.length_cons];omega
theorem vi:∀(S:List (List aa))(G:List aa),(∀r∈S,r.length≤16384)→pS S G≤65536*S.length
 |[],_,_=>by simp[pS]
 |_::_,[],_=>by simp[pS]
 |r::S,g::G,h=>by
  have:=vi S G λr hr=>h r (List.mem_cons_of_mem _ hr)
  have:=ms g r
  have:=h r List.mem_cons_self
  simp only[pS,List.length_cons];omega
theorem Sh.rowl{os:List Obj}{rg:List aa}{S:List (List aa)}(h:Sh os rg S):∀r∈S,r.length≤16384:=λr hr=>by
 obtain⟨i,hi⟩:=List.getElem?_of_mem hr
 have hil:=(giS.1 hi).1
 have:=h.sl_
 obtain⟨o,ho⟩:∃o,os[i]? =some o:=⟨_,geG oM⟩
 have:=h.row i r o hi ho
 have:=h.os1 o (List.mem_of_getElem? ho)
 omega
theorem vW{t:al}(hn:t.insns.length≤65536){rg:List aa}(F:List aj)(S:List (List aa))(hF:FOk t.insns.length F)(hS:Sh t.objs rg S):pS S rg+pFs F≤300000000:=by
 have h1:=vi S rg hS.rowl
 have h2:=sP F
 have h3:=hS.sl_
 have h4:=hS.ol
 have h5:=hF.l
 unfold pFs
 omega
structure Vd(t:al):Prop where
 vt:VT t
 cx:Cx t
 oo:∀o∈t.objs,OOk o
 tk:∀x∈t.tasks,dH t x=true
theorem Vd.of{t:al}(hs:Sz t)(h:MayB t=true)(h6:∀o∈t.objs, -9223372036854775808≤o.lo∧o.hi≤9223372036854775807)(hn:∀x∈t.insns,I64 x.n):Vd t:=by
 have hv:=MayB.vt hs h
 have hb:=Bdt.of hs h
 refine⟨hv,⟨hb,hv.excs.2,λx hx=>?_⟩,λo ho=>hv.oo ho (h6 o ho),?_⟩
 ·have hf:=hv.fits x hx
  refine IOk.of hv hb hf (λh50=>?_) (hn x hx)
  unfold fj at hf
  rw[Bool.and_eq_true] at hf
  exact wd hf.1 h50
 ·unfold MayB dG at h
  simp only[Bool.and_eq_true,List.all_eq_true] at h
  exact h.2.2.2.1.2
theorem f7_l2_eq(x:List Int)(k:List aa→Option (List aj×List (List aa)×Int))(hl:x.length≤16384):∀(n i:Nat)(L:List aa),L=(x.take i).map pt→i≤x.length→x.length<n+i→f7_l2 x k n (i:Int) L=k (x.map pt)
 |0,i,_,_,_,h=>oM
 |n+1,i,L,hL,hi,h=>by
  rw[f7_l2]
  by_cases hh:i<x.length
  ·have hlen:L.length=i:=by rw[hL,List.length_map,List.length_take];omega
   rw[ltT hh,cdT,aA hh,bnS,bx _ (kG oM (by simp;omega)),wN oM]
   refine f7_l2_eq x k hl n (i+1) _ ?_ oM oM
   rw[hL,List.take_succ_eq_append_getElem hh,List.map_append]
   rfl
  ·rw[dcF oM,cdF,hL,List.take_of_length_le oM]
theorem f7_l2_0(x:List Int)(k:List aa→Option (List aj×List (List aa)×Int))(hl:x.length≤16384):f7_l2 x k (Int.toNat ((x.length:Int) - 0)+1) 0 []=k (x.map pt):=f7_l2_eq x k hl _ 0 [] sM oM sM
theorem f7_l1_eq{t:al}(h:Vd t)(R:List (List Int))(hR:Shape t.objs R)(k:List aa→List (List aa)→Option (List aj×List (List aa)×Int)):∀(n i:Nat)(L:List aa)(M:List (List aa)),L=(t.objs.take i).map Rob→M=(R.take i).map (·.map pt)→i≤t.objs.length→t.objs.length<n+i→f7_l1 t k R n (i:Int) L M=k (t.objs.map Rob) (R.map (·.map pt))
 |0,i,_,_,_,_,_,h=>oM
 |n+1,i,L,M,hL,hM,hi,hn=>by
  have hlen:=hR.len
  have ho:=h.vt.objs
  rw[f7_l1,hlen]
  by_cases hh:i<t.objs.length
  ·have hL':L.length=i:=by rw[hL,List.length_map,List.length_take];omega
   have hM':M.length=i:=by rw[hM,List.length_map,List.length_take];omega
   obtain⟨r,hr,hrl⟩:=hR.at (geG hh)
   have hoo:=h.oo _ (List.getElem_mem hh)
   have hri:R[i]'oM=r:=by rw[geG oM,au] at hr;exact hr
   have hsz:=hoo.sz
   rw[ltT hh,cdT]
   simp only[ap]
   rw[aA oM,bnS,hri,f7_l2_0 r _ oM,bx _ (kG oM (by simp;omega)),aA hh,bnS,f25_eq hoo,bnS,bx _ (kG oM (by simp;omega)),wN oM]
   refine f7_l1_eq h R hR k n (i+1) _ _ ?_ ?_ oM oM
   ·rw[hL,List.take_succ_eq_append_getElem hh,List.map_append];rfl
   ·rw[hM,List.take_succ_eq_append_getElem oM,List.map_append,hri];rfl
  ·rw[dcF oM,cdF,hL,hM,List.take_of_length_le oM,List.take_of_length_le oM]
theorem f7_l1_0{t:al}(h:Vd t)(R:List (List Int))(hR:Shape t.objs R)(k:List aa→List (List aa)→Option (List aj×List (List aa)×Int)):f7_l1 t k R (Int.toNat ((R.length:Int) - 0)+1) 0 [] []=k (t.objs.map Rob) (R.map (·.map pt)):=f7_l1_eq h R hR k _ 0 [] [] sM sM oM (by rw[hR.len];simp)
theorem sV{t:al}(h:Vd t):Sh t.objs (t.objs.map Rob) ((store t).map (·.map pt)):=by
 have hS:=kg h.vt
 have hf:=sg h.vt
 have ho:=h.vt.objs
 refine⟨sM,λv hv=>?_,oM,λo hm=>(h.oo o hm).sz,by simp[hS.len],λi r o hr hoo=>?_,λi r g v hr hg hv=>?_⟩
 ·obtain⟨o,hm,rfl⟩:=List.mem_map.1 hv
  exact vE (h.oo o hm)
 ·obtain⟨r',h1,h2⟩:=hS.at hoo
  rw[List.getElem?_map,h1,Option.map_some,au] at hr
  rw[←hr,List.length_map];exact h2
 ·rw[List.getElem?_map] at hr hg
  cases hoo:t.objs[i]? with
  |none=>rw[hoo] at hg;cases hg
  |some o=>
   rw[hoo,Option.map_some,au] at hg
   obtain⟨r',h1,h2⟩:=hS.at hoo
   rw[h1,Option.map_some,au] at hr
   rw[←hr] at hv
   obtain⟨z,hz,rfl⟩:=List.mem_map.1 hv
   have:=u5 (h.oo o (List.mem_of_getElem? hoo)) (hf i r' o z h1 hoo hz)
   rw[←hg]
   exact⟨this.1,this.2.1,this.2.2⟩
abbrev F0(n:Nat):List aj:=List.replicate n ⟨false,λ_=>⟨0,0⟩⟩
theorem sf(n:Nat):FOk n (F0 n):=⟨List.length_replicate,λf hf=> .inr (List.mem_replicate.1 hf).2⟩
abbrev Q7:=Option (List aj×List (List aa)×Int)
theorem f7_l5_ok{t:al}{rg:List aa}(x:bO)(hx:∀v∈x.ins,nl t.objs v=true)(hl:x.ins.length≤100):∀(n i:Nat)(S:List (List aa)),Sh t.objs rg S→i≤x.ins.length→x.ins.length<n+i→∃S',(∀k:List (List aa)→List Int→List Int→Q7,f7_l5 rg k x n (i:Int) S=k S' x.ins x.outs)∧Sh t.objs rg S'
 |0,i,_,_,_,h=>oM
 |n+1,i,S,hS,hi,h=>by
  by_cases hh:i<x.ins.length
  ·have h1:=hx _ (List.getElem_mem hh)
   have hix:=aA hh
   generalize x.ins[i]=v at h1 hix
   unfold nl at h1
   cases ho:idx t.objs v with
   |none=>rw[ho] at h1;cases h1
   |some o=>
    rw[ho] at h1
    simp only[decide_eq_true_eq] at h1
    obtain⟨r,g,q1,q2,q3,q4,_⟩:=hS.at ho
    obtain⟨z,hz,_⟩:=aE (L:=r) (i:=0) ⟨Int.le_refl _,oM⟩
    obtain⟨S',e,hS'⟩:=f7_l5_ok x hx hl n (i+1) _ (hS.set q1 q2 q4 (Isub.refl _) (Int.toNat 0)) oM oM
    refine⟨S',λk=>?_,hS'⟩
    rw[f7_l5,ltT hh,cdT,hix,bnS,wN oM,q1,bnS,q2,bnS,hz,bnS]
    exact e k
  ·refine⟨S,λk=>?_,hS⟩
   rw[f7_l5,dcF oM,cdF]
theorem f7_l4_ok{t:al}{rg:List aa}(x:bJ)(hx:dH t x=true)(F:List aj)(f:aj):∀(n i:Nat)(S:List (List aa)),Sh t.objs rg S→i≤x.entries.length→x.entries.length<n+i→∃S',(∀k:List aj→List (List aa)→Int→Int→List bO→Int→Q7,f7_l4 rg F k x f n (i:Int) S=k (F.set x.at_.toNat ⟨true,f.r⟩) S' x.prio x.at_ x.entries x.deadline)∧Sh t.objs rg S'
 |0,i,_,_,_,h=>oM
 |n+1,i,S,hS,hi,h=>by
  have hx':=hx
  unfold dH at hx'
  simp only[Bool.and_eq_true,Bool.not_eq_true',Bool.or_eq_false_iff,decide_eq_false_iff_not,List.all_eq_true] at hx'
  obtain⟨⟨_,h8⟩,hent⟩:=hx'
  by_cases hh:i<x.entries.length
  ·have he:=hent _ (List.getElem_mem hh)
   unfold d7 dF at he
   simp only[Bool.and_eq_true,decide_eq_true_eq,List.all_eq_true] at he
   obtain⟨S1,e1,hS1⟩:=f7_l5_ok (t:=t) (rg:=rg) x.entries[i] he.1.2 oM (Int.toNat ((x.entries[i].ins.length:Int) - 0)+1) 0 S hS oM sM
   obtain⟨S2,e2,hS2⟩:=f7_l4_ok x hx F f n (i+1) S1 hS1 oM oM
   refine⟨S2,λk=>?_,hS2⟩
   rw[f7_l4,ltT hh,cdT]
   simp only[ap]
   rw[aA hh,bnS]
   refine(e1 (λl213 _ _=>f7_l4 rg F k x f n (IntKind.i64.wrap ((i:Int)+1)) l213)).trans ?_
   rw[wN oM];exact e2 k
  ·refine⟨S,λk=>?_,hS⟩
   rw[f7_l4,dcF oM,cdF]
theorem f7_l3_ok{t:al}{rg:List aa}(h:Vd t):∀(n i:Nat)(F:List aj)(S:List (List aa)),FOk t.insns.length F→Sh t.objs rg S→i≤t.tasks.length→t.tasks.length<n+i→∃F' S',(∀k:List aj→List (List aa)→Q7,f7_l3 t rg k n (i:Int) F S=k F' S')∧FOk t.insns.length F'∧Sh t.objs rg S'∧FUp F F'∧∀x∈t.tasks.drop i,∃f,idx F' x.at_=some f∧f.reached=true
 |0,i,_,_,_,_,_,h=>oM
 |n+1,i,F,S,hF,hS,hi,hn=>by
  have htl:=h.cx.bd.tasks
  by_cases hh:i<t.tasks.length
  ·have hx:=h.tk _ (List.getElem_mem hh)
   have hix:=aA hh
   rw[aK hh]
   generalize t.tasks[i]=x at hx hix⊢
   have hat:0≤x.at_∧x.at_<t.insns.length:=by
    have hx':=hx
    unfold dH at hx'
    simp only[Bool.and_eq_true,Bool.not_eq_true',Bool.or_eq_false_iff,Bool.not_eq_false'] at hx'
    exact eP.1 hx'.1.1.1.1.2
   obtain⟨f,hf,hm⟩:=aE (L:=F) (i:=x.at_) ⟨hat.1,by rw[hF.l];exact hat.2⟩
   obtain⟨S1,e1,hS1⟩:=f7_l4_ok (t:=t) (rg:=rg) x hx F f (Int.toNat ((x.entries.length:Int) - 0)+1) 0 S hS oM sM
   have hne:RNe f.r:=by
    rcases hF.h f hm with h|h
    ·exact h.2
    ·rw[h];exact qv
   have hup:FUp F (F.set x.at_.toNat ⟨true,f.r⟩):=⟨List.length_set,λb g hg=>by
    rw[jn hf]
    by_cases e:b=x.at_
    ·rw[if_pos e]
     have:g=f:=by rw[e,hf,au] at hg;exact hg.symm
     subst this
     exact⟨_,rfl,λ_=>⟨rfl,RSub.refl _⟩⟩
    ·rw[if_neg e]
     exact⟨g,hg,λe=>⟨e,RSub.refl _⟩⟩⟩
   obtain⟨F2,S2,e2,hF2,hS2,hU2,hT2⟩:=f7_l3_ok h n (i+1) _ S1 (hF.set (f:=⟨true,f.r⟩) ⟨rfl,hne⟩ x.at_.toNat) hS1 oM oM
   refine⟨F2,S2,λk=>?_,hF2,hS2,hup.trans hU2,λy hy=>?_⟩
   ·rw[f7_l3,ltT hh,cdT]
    simp only[ap]
    rw[hix,bnS,hf,bnS]
    refine(e1 (λl198 l199 _ _ _ _=>f7_l3 t rg k n (IntKind.i64.wrap ((i:Int)+1)) l198 l199)).trans ?_
    rw[wN oM];exact e2 k
   ·rcases List.mem_cons.1 hy with rfl|hy
    ·obtain⟨f',h1,h2⟩:=hU2.h _ _ (ik (y:=⟨true,f.r⟩) hf)
     exact⟨f',h1,(h2 rfl).1⟩
    ·exact hT2 y hy
  ·refine⟨F,S,λk=>?_,hF,hS,FUp.refl _,λ_ hx=>?_⟩
   ·rw[f7_l3,dcF oM,cdF]
   ·rw[List.drop_eq_nil_of_le oM] at hx;cases hx
def beg(t:al):Q7:=f7_l3 t (t.objs.map Rob) (λF S=>some (F,S,0)) (Int.toNat ((t.tasks.length:Int) - 0)+1) 0 (F0 t.insns.length) ((store t).map (·.map pt))
theorem f7_beg{t:al}(hs:Sz t)(hm:MayB t=true)(h:Vd t):∃F1 S1,beg t=some (F1,S1,0)∧f7 t=f7_l6 t (t.objs.map Rob) (λlw228 lw229 _ _=>some (lw228,lw229,0)) 9223372036854775808 1 F1 S1 0 (λ_=>(aa.mk 0 0))∧FOk t.insns.length F1∧Sh t.objs (t.objs.map Rob) S1∧∀x∈t.tasks,∃f,idx F1 x.at_=some f∧f.reached=true:=by
 have hn:=h.vt.n
 have ho:=h.vt.objs
 obtain⟨F1,S1,e1,hF1,hS1,hU1,hT1⟩:=f7_l3_ok (rg:=t.objs.map Rob) h (Int.toNat ((t.tasks.length:Int) - 0)+1) 0 (F0 t.insns.length) _ (sf _) (sV h) oM sM
 refine⟨F1,S1,e1 _,?_,hF1,hS1,by simpa using hT1⟩
 unfold f7
 rw[f22_eq t hs,hm,bnS,Bool.not_true,cdF,bx _ (mk264 oM oM)]
 simp only[ap]
 rw[f23_eq t hs hm,bnS,f7_l1_0 h (store t) (kg h.vt)]
 rw[Int.toNat_natCast]
 exact e1 _
structure Mk(t:al)(F:List aj)(S:List (List aa)):Prop where
 ok:FOk t.insns.length F
 sh:Sh t.objs (t.objs.map Rob) S
 tk:∀x∈t.tasks,∃f,idx F x.at_=some f∧f.reached=true
theorem f7_ok{t:al}(hs:Sz t)(hm:MayB t=true)(h:Vd t):∃F S,f7 t=some (F,S,0)∧Mk t F S:=by
 have hn:=h.vt.n
 obtain⟨F1,S1,_,e1,hF1,hS1,hT1⟩:=f7_beg hs hm h
 obtain⟨F2,S2,p2,r2,e2,q2⟩:=sU (rg:=t.objs.map Rob) h.cx (λlw228 lw229 _ _=>some (lw228,lw229,0)) 300000000 (λF S hF hS=>vW hn.2 F S hF hS) oM 4 9223372036854775808 1 F1 S1 0 (λ_=>(aa.mk 0 0)) hF1 hS1 oM oM oM oM
 refine⟨F2,S2,e1.trans e2,q2.ok,q2.sh,λx hx=>?_⟩
 obtain⟨f,h1,h2⟩:=hT1 x hx
 obtain⟨f',h3,h4⟩:=q2.up.h _ _ h1
 exact⟨f',h3,(h4 h2).1⟩
abbrev CS:=Bool×List aj×List (List aa)
def ve(t:al)(rg:List aa)(w:Bool)(a:Int)(s:CS):Option CS:=
 (idx s.2.1 a).bind λf=>bif !f.reached then some s else(idx t.insns a).bind λx=>(mX t rg s.2.1 s.2.2 a f.r x).bind λz=>
  (dR (f26_m2 rg w) z.1 (s.1,s.2.2)).bind λq=>(dR (f26_m3 w a) z.2 (q.1,s.2.1)).bind λu=>some (u.1,u.2,q.2)
def mZ(t:al)(rg:List aa)(w:Bool):Nat→Int→CS→Option CS
 |0,_,s=>some s
 |n+1,a,s=>(ve t rg w a s).bind (mZ t rg w n (a+1))
def qR(t:al)(rg:List aa):Nat→Int→List aj→List (List aa)→Option (List aj×List (List aa))
 |0,_,_,_=>none
 |d+1,n,F,S=>(mZ t rg (decide (n>4)) t.insns.length 0 (false,F,S)).bind λs=>bif s.1 then qR t rg d (n+1) s.2.1 s.2.2 else some (s.2.1,s.2.2)
def mA(t:al):Option (List aj×List (List aa)):=(beg t).bind λz=>qR t (t.objs.map Rob) 60 1 z.1 z.2.1
theorem eh{α β:Type}{o:Option α}{f:α→Option β}{r:β}(h:o.bind f=some r):∃x,o=some x∧f x=some r:=by
 cases o with
 |none=>cases h
 |some x=>exact⟨x,rfl,h⟩
theorem jG{t:al}{rg:List aa}{w:Bool}(cx:Cx t){fc:List aj}(hfc:fc.length=t.insns.length):∀(m n i:Nat)(s s':CS)(p:Int)(r:Rgs),FOk t.insns.length s.2.1→Sh t.objs rg s.2.2→i+m=t.insns.length→t.insns.length<n+i→mZ t rg w m (i:Int) s=some s'→(∃p' r',∀k:Bool→List aj→List (List aa)→Int→Rgs→Option (Bool×Int×Rgs×List aj×List (List aa)),f26_l1 t rg fc w k n s.1 (i:Int) s.2.1 s.2.2 p r=k s'.1 s'.2.1 s'.2.2 p' r')∧FOk t.insns.length s'.2.1∧Sh t.objs rg s'.2.2
 |_,0,i,_,_,_,_,_,_,_,h,_=>oM
 |0,n+1,i,s,s',p,r,hF,hS,hi,h,hc=>by
  obtain rfl:=inS hc
  refine⟨⟨p,r,λk=>?_⟩,hF,hS⟩
  rw[f26_l1,hfc,dcF oM,cdF]
 |m+1,n+1,i,s,s',p,r,hF,hS,hi,h,hc=>by
  have hbn:=cx.bd.n
  obtain⟨c,F,S⟩:=s
  dsimp only at hF hS⊢
  rw[mZ] at hc
  obtain⟨s1,hc1,hc2⟩:=eh hc
  rw[show(i:Int)+1=((i+1:Nat):Int) by push_cast;rfl] at hc2
  unfold ve at hc1
  dsimp only at hc1
  obtain⟨f,hf,hc1⟩:=eh hc1
  have hfm:=cg hf
  have hh:i<t.insns.length:=oM
  cases hr:f.reached with
  |false=>
   rw[hr,Bool.not_false,cdT,au] at hc1
   subst hc1
   obtain⟨⟨p',r',e⟩,q1,q2⟩:=jG cx hfc m n (i+1) (c,F,S) s' p r hF hS oM oM hc2
   refine⟨⟨p',r',λk=>?_⟩,q1,q2⟩
   rw[f26_l1,hfc,ltT hh,cdT]
   simp only[ap]
   rw[hf,bnS,wN oM,hr,Bool.not_false,cdT]
   exact e k
  |true=>
   rw[hr,Bool.not_true,cdF] at hc1
   obtain⟨x,hx,hc1⟩:=eh hc1
   obtain⟨z0,hz0,hc1⟩:=eh hc1
   have hrn:=hF.ne hfm hr
   have hxm:=cg hx
   obtain⟨w0,e58,hw0⟩:=f58_ok (t:=t) (rg:=rg) (fc:=F) (sl:=S) (pc:=(i:Int)) (rr:=f.r) (pl:=[]) WyOk.nil cx.bd.handlers true
   obtain⟨z,efm,hz1,hz2⟩:=vu (rg:=rg) (fc:=F) (sl:=S) (pc:=(i:Int)) (rr:=f.r) (cx.io x hxm) cx.bd cx.ex hS hw0 hrn
   have hways:mX t rg F S (i:Int) f.r x=some (z.2.1,z.2.2):=by unfold mX;rw[e58,bnS,efm,bnS]
   rw[hways,au] at hz0
   subst hz0
   have hP2:=hz1.p2 hS
   have hP3:=hz2.p3
   rw[hF.l] at hP3
   obtain⟨c1,S1,g1,s1',_,_,_⟩:=wz (w:=w) z.2.1 S c hS hP2
   obtain⟨c2,F1,g2,s2,_⟩:=wx (w:=w) (a:=(i:Int)) z.2.2 F c1 hF hP3
   dsimp only at hc1
   rw[g1,bnS] at hc1
   dsimp only at hc1
   rw[g2,bnS,au] at hc1
   subst hc1
   obtain⟨⟨p',r',e⟩,q1,q2⟩:=jG cx hfc m n (i+1) (c2,F1,S1) s' (i:Int) z.1 s2.ok s1' oM oM hc2
   refine⟨⟨p',r',λk=>?_⟩,q1,q2⟩
   rw[f26_l1,hfc,ltT hh,cdT]
   simp only[ap]
   rw[hf,bnS,wN oM,hr]
   rw[Bool.not_true,cdF,bnS,e58,bnS,hx,bnS,f59_eq,bnS,efm,bnS]
   rw[ga (s':=(c1,S1)) λl hl=>(qN hS hl hz1.nd hP2).trans g1]
   dsimp only
   rw[ga (s':=(c2,F1)) λl hl=>(qM hF hl hz2.nd hP3).trans g2]
   exact e k
theorem oK{t:al}{rg:List aa}(cx:Cx t)(k:List aj→List (List aa)→Int→Rgs→Option (List aj×List (List aa)×Int)):∀(d fuel:Nat)(n:Int)(F:List aj)(S:List (List aa))(p:Int)(r:Rgs)(F':List aj)(S':List (List aa)),FOk t.insns.length F→Sh t.objs rg S→qR t rg d n F S=some (F',S')→d≤fuel→0≤n→n+d<1000000→∃p' r',f7_l6 t rg k fuel n F S p r=k F' S' p' r'
 |0,fuel,n,F,S,p,r,F',S',_,_,hc,_,_,_=>by cases hc
 |d+1,fuel,n,F,S,p,r,F',S',hF,hS,hc,hfu,hn,hnd=>by
  obtain⟨m,rfl⟩:∃m,fuel=m+1:=⟨fuel - 1,oM⟩
  rw[qR] at hc
  obtain⟨s,hc1,hc2⟩:=eh hc
  obtain⟨⟨p1,r1,e⟩,q1,q2⟩:=jG (p:=p) (r:=r) cx hF.l t.insns.length (Int.toNat ((F.length:Int) - 0)+1) 0 (false,F,S) s hF hS oM (by rw[hF.l];simp) hc1
  have e26:f26 t rg p r F S (decide (n>4))=some (s.1,p1,r1,s.2.1,s.2.2):=by
   unfold f26
   rw[ap]
   exact e _
  rw[f7_l6,e26,bnS]
  dsimp only
  cases hs:s.1 with
  |false=>
   rw[hs,cdF,au,Prod.mk.injEq] at hc2
   rw[←hc2.1,←hc2.2]
   exact⟨p1,r1,rfl⟩
  |true=>
   rw[hs,cdT] at hc2
   rw[cdT,w64 oM oM]
   exact oK cx k d m (n+1) s.2.1 s.2.2 p1 r1 F' S' q1 q2 hc2 oM oM (by push_cast at hnd;omega)
theorem oG{t:al}(hs:Sz t)(hm:MayB t=true)(h:Vd t){F:List aj}{S:List (List aa)}(hc:mA t=some (F,S)):f7 t=some (F,S,0):=by
 obtain⟨F1,S1,hb,e1,hF1,hS1,_⟩:=f7_beg hs hm h
 unfold mA at hc
 rw[hb,bnS] at hc
 obtain⟨p',r',e⟩:=oK (rg:=t.objs.map Rob) h.cx (λlw228 lw229 _ _=>some (lw228,lw229,0)) 60 9223372036854775808 1 F1 S1 0 (λ_=>(aa.mk 0 0)) F S hF1 hS1 hc oM oM oM
 exact e1.trans e
def tr(t:al):Option (List Int):=(mA t).bind λz=>f43_l1 t (z.1,z.2,0) (λl=>some l) (Int.toNat ((List.length z.1:Int) - 0)+1) 0 []
theorem tq{t:al}(hs:Sz t)(hm:MayB t=true)(h:Vd t){L:List Int}(hc:tr t=some L):f43 t=some L:=by
 unfold tr at hc
 obtain⟨z,h1,h2⟩:=eh hc
 unfold f43
 rw[oG hs hm h h1,bnS]
 exact h2
set_option maxRecDepth 100000
abbrev hxO:List Obj:=[⟨1,0,9,false,[]⟩,⟨2, -9223372036854775808,9223372036854775807,false,[]⟩]
def hxT(l:List ao):al:=⟨l++ [⟨57,0,0,0,0,0,0⟩],[],[],[],[],hxO,[⟨0,0,3⟩],4,[⟨0,0,[],0⟩],[],[]⟩
def hx0:al:=⟨[],[],[],[],[],[],[],0,[],[],[]⟩
abbrev hl1:List ao:=[⟨1,1,0,0,0,0,0⟩,⟨1,2,0,0,1,0,0⟩,⟨9,1,1,2,0,0,0⟩,⟨29,0,0,0,0,0,2⟩]
abbrev hl2:List ao:=[⟨1,1,0,0,5,0,0⟩,f18 0 9]
abbrev hl3:List ao:=[⟨38,1,0,0,0,0,0⟩,f18 0 9,f18 0 9]
abbrev hl4:List ao:=[⟨3,1,0,0,0,0,0⟩,f18 3 3]
abbrev hl5:List ao:=[⟨38,1,0,0,0,0,0⟩,⟨4,0,1,0,0,0,0⟩,⟨3,1,0,0,0,0,0⟩,f18 0 9,f18 1 9]
structure Tx(t:al):Prop where
 s:Sz t
 m:MayB t=true
 v:Vd t
theorem n5{l:List ao}(h0:∀x∈(hxT l).insns,0≤x.op∧x.op≤255)(h1:MayB (hxT l)=true)(h2:∀x∈(hxT l).insns,I64 x.n):Tx (hxT l):=by
 have hs:Sz (hxT l):=⟨h0,show 1<9223372036854775808 by decide,show∀o∈hxO,o.set_.length<9223372036854775808 by decide,show∀l∈([]:List (List Int)),l.length<9223372036854775808 by decide,show 0<9223372036854775808 by decide,show 0<9223372036854775808 by decide⟩
 exact⟨hs,h1,Vd.of hs h1 (show∀o∈hxO, -9223372036854775808≤o.lo∧o.hi≤9223372036854775807 by decide) h2⟩
theorem kE{l:List ao}(h:Tx (hxT l)){L w:List Int}(hi:tr (hxT l)=some L)(hw:f42 L w=some true):f21 (hxT l) w=some true:=by
 unfold f21
 rw[tq h.s h.m h.v hi,bnS,hw]
 rfl
theorem make0:f7 hx0=some ([],[],2):=by
 have hs:Sz hx0:=⟨by decide,by decide,by decide,by decide,by decide,by decide⟩
 have hm:MayB hx0=false:=by decide+kernel
 unfold f7
 rw[f22_eq _ hs,hm,bnS,Bool.not_false,cdT]
theorem mC{α κ:Type}{k:κ}{f:κ→Option α}{r:α}(P:κ→Prop)(hk:P k)(hf:∀k',P k'→f k'=some r):letk k f=some r:=hf k hk
theorem i2:f21 (hxT hl2) [1]=some true:=kE (n5 dC (by decide+kernel) dC) (L:=[1]) (by decide+kernel) (by decide+kernel)
theorem i3:f21 (hxT hl3) [2]=some true:=kE (n5 dC (by decide+kernel) dC) (L:=[2]) (by decide+kernel) (by decide+kernel)
theorem i4:f21 (hxT hl4) [1]=some true:=kE (n5 dC (by decide+kernel) dC) (L:=[1]) (by decide+kernel) (by decide+kernel)
theorem i5:f21 (hxT hl5) [3]=some true:=kE (n5 dC (by decide+kernel) dC) (L:=[3]) (by decide+kernel) (by decide+kernel)
theorem t1:Tx (hxT hl1):=n5 dC (by decide+kernel) dC
theorem made:∃z,mA (hxT hl1)=some z:=by
 have:(mA (hxT hl1)).isSome=true:=by decide+kernel
 exact Option.isSome_iff_exists.1 this
def ck(z:List aj×List (List aa))(k131:Bool→Option Bool):Option Bool:=
 bif !decide ((0:Int)=0) then k131 true else bif !decide ((z.1.length:Int)=5) then k131 true else bif !decide ((z.2.length:Int)=2) then k131 true else
 (idx z.2 0).bind λx132=>bif !decide ((x132.length:Int)=1) then k131 true else(idx z.1 4).bind λx133=>bif x133.reached then k131 true else
 (idx z.1 3).bind λx134=>bif !(decide ((x134.r (Int.toNat 1)).lo=f20.lo)&&(decide ((x134.r (Int.toNat 1)).hi=f20.hi)&&true)) then k131 true else
 (idx z.1 3).bind λx135=>bif !(decide ((x135.r (Int.toNat 2)).lo=1)&&(decide ((x135.r (Int.toNat 2)).hi=1)&&true)) then k131 true else
 (idx z.2 0).bind λx136=>(idx x136 0).bind λx137=>k131 (!(decide (x137.lo=3)&&(decide (x137.hi=3)&&true)))
theorem ck_ok(k:Bool→Option Bool):(mA (hxT hl1)).bind (λz=>ck z k)=k false:=by kernel_rfl
theorem f6_true:f6=some true:=by
 obtain⟨z,hz⟩:=made
 unfold f6
 refine mC (λk=>k ()=some true) ?_ λk127 h127=>?_
 ·show Option.bind (f7 (hxT hl1)) _=_
  rw[oG t1.s t1.m t1.v hz,bnS]
  refine mC (λk=>k false=some true) ?_ λk131 h131=>?_
  ·rw[cdF]
   show Option.bind (f7 hx0) _=_
   rw[make0,bnS]
   refine mC (λk=>k ()=some true) ?_ λk hk=>(bx _ (by decide+kernel)).trans hk
   show Option.bind (f21 (hxT hl2) [1]) _=_
   rw[i2,bnS,cdT]
   refine mC (λk=>k ()=some true) ?_ λk hk=>(bx _ (by decide+kernel)).trans hk
   show Option.bind (f21 (hxT hl3) [2]) _=_
   rw[i3,bnS,cdT]
   refine mC (λk=>k ()=some true) ?_ λk hk=>(bx _ (by decide+kernel)).trans hk
   show Option.bind (f21 (hxT hl4) [1]) _=_
   rw[i4,bnS,cdT]
   refine mC (λk=>k ()=some true) ?_ λk hk=>(bx _ (by decide+kernel)).trans hk
   show Option.bind (f21 (hxT hl5) [3]) _=_
   rw[i5,bnS]
   rfl
  ·rw[←h131]
   have:=ck_ok k131
   rw[hz] at this
   exact this
 ·exact(bx _ (by decide+kernel)).trans h127
theorem f4_l1_ok(t:al)(k:Int→Option Bool):∀(n i:Nat)(s:Int),i≤100→100<n+i→∃r,f4_l1 t k n s (i:Int)=k r
 |0,i,_,_,h=>oM
 |n+1,i,s,hi,h=>by
  rw[f4_l1]
  by_cases hh:(i:Int)<t.objs.length∧(i:Int)<100
  ·rw[dcT hh.1,dcT hh.2,Bool.and_self,cdT,aA (show i<t.objs.length by omega),bnS,wN oM]
   exact f4_l1_ok t k n (i+1) _ oM oM
  ·have:(decide ((i:Int)<t.objs.length)&&decide ((i:Int)<100))=false:=by
    rw[←Bool.not_eq_true,Bool.and_eq_true,decide_eq_true_eq,decide_eq_true_eq];exact hh
   rw[this,cdF]
   exact⟨s,rfl⟩
theorem f4_ok(t:al):∃b,f4 t=some b:=by
 obtain⟨N,hN⟩:∃N,N=9223372036854775808:=⟨_,rfl⟩
 unfold f4
 rw[ap,←hN]
 obtain⟨r,h⟩:=f4_l1_ok t (λn90=>some (((((((((((decide (n90>200))||(decide ((List.length t.insns:Int)>60)))||(decide ((List.length t.handlers:Int)>20)))||(decide ((List.length t.loops:Int)>60)))||(decide ((List.length t.selects:Int)>20)))||(decide ((List.length t.lists:Int)>40)))||(decide ((List.length t.objs:Int)>30)))||(decide ((List.length t.inits:Int)>60)))||(decide ((List.length t.tasks:Int)>20)))||(decide ((List.length t.prots:Int)>10)))||(decide ((List.length t.checks:Int)>60)))) N 0 0 oM oM
 exact⟨_,h⟩
section
variable{t:al}{F:List aj}{S:List (List aa)}
theorem f3_l1_ok(h:Mk t F S)(hl:t.tasks.length≤1000)(k:Unit→Option Bool):∀(n i:Nat),i≤t.tasks.length→t.tasks.length<n+i→f3_l1 t (F,S,0) k n (i:Int)=k ()
 |0,i,_,h=>oM
 |n+1,i,hi,hn=>by
  rw[f3_l1]
  by_cases hh:i<t.tasks.length
  ·obtain⟨f,h1,h2⟩:=h.tk _ (List.getElem_mem hh)
   rw[ltT hh,cdT,aA hh,bnS,h1,bnS,h2,Bool.not_true,cdF,wN oM]
   exact f3_l1_ok h hl k n (i+1) oM oM
  ·rw[dcF oM,cdF]
theorem f3_l3_ok{f:aj}{a:Int}(hf:idx F a=some f)(hr:RNe f.r)(k:Unit→Option Bool):∀(n i:Nat),i≤16→16<n+i→f3_l3 (F,S,0) a k n (i:Int)=k ()
 |0,i,_,h=>oM
 |n+1,i,hi,hn=>by
  rw[f3_l3]
  by_cases hh:i<16
  ·have h8:f8 (f.r i)=false:=dcF (by have:=(hr i hh).1;omega)
   rw[dcT oM,cdT]
   dsimp only
   rw[hf,bnS,bx _ (jF hh),Int.toNat_natCast,h8,cdF,wN oM]
   exact f3_l3_ok hf hr k n (i+1) oM oM
  ·rw[dcF oM,cdF]
theorem f3_l2_ok(h:Mk t F S)(hl:t.insns.length≤65536)(k:Unit→Option Bool):∀(n i:Nat),i≤F.length→F.length<n+i→f3_l2 (F,S,0) k n (i:Int)=k ()
 |0,i,_,h=>oM
 |n+1,i,hi,hn=>by
  have hFl:=h.ok.l
  rw[f3_l2]
  dsimp only
  by_cases hh:i<F.length
  ·have hf:=aA hh
   have hm:=h.ok.h _ (List.getElem_mem hh)
   generalize F[i]=f at hf hm
   have hb:∀(x:Option Bool)(K:Bool→Option Bool),x=some false→x.bind K=K false:=λx K e=>by rw[e];rfl
   obtain⟨N,hN⟩:∃N,N=9223372036854775808:=⟨_,rfl⟩
   rw[←hN]
   rw[ltT hh,cdT]
   simp only[ap]
   rw[hf,bnS]
   have fin:f3_l3 (F,S,0) (i:Int) (λ_=>f3_l2 (F,S,0) k n (IntKind.i64.wrap ((i:Int)+1))) N 0=k ():=by
    have hr:RNe f.r:=by
     rcases hm with hm|hm
     ·exact hm.2
     ·rw[hm];exact qv
    refine(f3_l3_ok (S:=S) hf hr _ N 0 oM oM).trans ?_
    rw[wN oM]
    exact f3_l2_ok h hl k n (i+1) oM oM
   rcases hm with hm|hm
   ·rw[hm.1,Bool.not_true,cdF,bnS,cdF]
    exact fin
   ·refine(hb _ _ ?_).trans fin
    rw[hm]
    rfl
  ·rw[dcF oM,cdF]
theorem f3_l5_ok(h:Mk t F S)(hv:Vd t){o:Int}{r:List aa}{ob:Obj}(h1:idx S o=some r)(h2:idx t.objs o=some ob)(k:Unit→Option Bool):∀(n i:Nat),i≤r.length→r.length<n+i→f3_l5 t (F,S,0) o k n (i:Int)=k ()
 |0,i,_,h=>oM
 |n+1,i,hi,hn=>by
  have hrl:=h.sh.rowl r (cg h1)
  have hoo:=hv.oo ob (cg h2)
  rw[f3_l5]
  dsimp only
  rw[h1,bnS]
  by_cases hh:i<r.length
  ·rw[ltT hh,cdT]
   simp only[ap]
   obtain⟨r',g,q1,q2,q3,q4,q5⟩:=h.sh.at h2
   rw[h1,au] at q1
   subst q1
   have hg:g=Rob ob:=by
    have:=aU q2
    rw[List.getElem?_map,aU h2] at this
    simpa using this.symm
   subst hg
   obtain⟨n1,n2,n3⟩:=q5 _ (List.getElem_mem hh)
   have h8:f8 r[i]=false:=dcF (by have:=n1.1;omega)
   have h9:f9 r[i] (Rob ob)=true:=by
    unfold f9
    rw[h8,Bool.false_or,Bool.and_eq_true,decide_eq_true_eq,decide_eq_true_eq]
    exact⟨n2,n3⟩
   rw[bnS,aA hh,bnS,h8,cdF,bnS,aA hh,bnS,h2,bnS,f10_eq hoo,bnS,h9,Bool.not_true,cdF,wN oM]
   exact f3_l5_ok h hv h1 h2 k n (i+1) oM oM
  ·rw[dcF oM,cdF]
theorem f3_l4_ok(h:Mk t F S)(hv:Vd t)(k:Unit→Option Bool):∀(n i:Nat),i≤S.length→S.length<n+i→f3_l4 t (F,S,0) k n (i:Int)=k ()
 |0,i,_,h=>oM
 |n+1,i,hi,hn=>by
  have hsl:=h.sh.sl_
  have hol:=h.sh.ol
  rw[f3_l4]
  dsimp only
  by_cases hh:i<S.length
  ·obtain⟨N,hN⟩:∃N,N=9223372036854775808:=⟨_,rfl⟩
   rw[←hN]
   rw[ltT hh,cdT]
   simp only[ap]
   have h1:=aA hh
   have h2:=aA (show i<t.objs.length by omega)
   have h3:=h.sh.row i S[i] t.objs[i] (geG hh) (geG oM)
   have hrl:=h.sh.rowl _ (List.getElem_mem hh)
   rw[h1,bnS,h2,bnS,h3,dcT rfl,Bool.not_true,cdF]
   refine(f3_l5_ok h hv h1 h2 _ N 0 oM oM).trans ?_
   rw[wN oM]
   exact f3_l4_ok h hv k n (i+1) oM oM
  ·rw[dcF oM,cdF]
end
theorem f3_law(t:al)(hs:Sz t)(ha:SzA t)(h6:∀o∈t.objs, -9223372036854775808≤o.lo∧o.hi≤9223372036854775807)(hn:∀x∈t.insns,I64 x.n):f3 t=some true:=by
 obtain⟨b,hb⟩:=f4_ok t
 obtain⟨N,hN⟩:∃N,N=9223372036854775808:=⟨_,rfl⟩
 unfold f3
 rw[←hN]
 rw[hb,bnS]
 cases b with
 |true=>rw[cdT,bnS,cdT,f6_true];rfl
 |false=>
  rw[cdF,f5_eq t hs ha,bnS,bnS]
  cases hm:MayB t with
  |false=>rw[Bool.not_false,cdT,f6_true];rfl
  |true=>
   rw[Bool.not_true,cdF]
   have hv:=Vd.of hs hm h6 hn
   obtain⟨F,S,e,h⟩:=f7_ok hs hm hv
   have hFl:=h.ok.l
   have hSl:=h.sh.sl_
   have hni:=hv.vt.n
   have hno:=hv.vt.objs
   have hnt:=hv.cx.bd.tasks
   rw[e,bnS]
   dsimp only
   rw[dcT rfl,dcT (show(F.length:Int)=t.insns.length by omega),dcT (show(S.length:Int)=t.objs.length by omega)]
   simp only[Bool.not_true,Bool.or_self,cdF,ap]
   refine(f3_l1_ok h oM _ N 0 oM oM).trans ?_
   refine(f3_l2_ok h oM _ N 0 oM oM).trans ?_
   refine(f3_l4_ok h hv _ N 0 oM oM).trans ?_
   rw[f6_true];rfl
end Go.Proofs.YtkbpoeellidgeaaGreatDoor
