/- Part of the proof. -/
import Derived.Laws.BitsLemmas
import Derived.KernelRfl
import Derived.Test.YtejcfgjpdocaoaaGreatDoorO
set_option linter.all false
namespace Go.Tg
open Go Go.Sk
open Go.IntKind (i64)
abbrev Bs:=List Int
def Byt(b:Bs):Prop:=∀x∈b,0<=x/\x<256
theorem Byt.app{a b:Bs}:Byt (a++b)↔Byt a/\Byt b:=by unfold Byt;simp only[List.mem_append];exact⟨λh=>⟨λx hx=>h x (.inl hx),λx hx=>h x (.inr hx)⟩,λh x hx=>hx.elim (h.1 x) (h.2 x)⟩
structure Cod(α:Type) where
 enc:α->Bs
 dec:Bs->Option (α×Bs)
 dec':Bs->Option (α×Bs)
 ok:α->Prop
 a:∀{b x r},Byt b->dec b=some (x,r)->b=enc x++r/\ok x
 b:∀{x} r,ok x->dec (enc x++r)=some (x,r)
 c:∀{b x r},dec b=some (x,r)->dec' b=some (x,r)
 d:∀{b x r},Byt b->dec' b=some (x,r)->ok x/\Byt r
 e:∀x,8<=(enc x).length
 f:∀x,ok x->Byt (enc x)
 g:∀{b x r},Byt b->dec' b=some (x,r)->(enc x).length+r.length=b.length
def Cod.two{α β γ:Type}(p:Cod α)(q:Cod β)(mk:α->β->γ)(f1:γ->α)(f2:γ->β)(h1:∀x y,f1 (mk x y)=x)(h2:∀x y,f2 (mk x y)=y)(h3:∀z,mk (f1 z) (f2 z)=z):Cod γ where
 enc z:=p.enc (f1 z)++q.enc (f2 z)
 dec b:=(p.dec b).bind λu=>(q.dec u.2).bind λv=>some (mk u.1 v.1,v.2)
 dec' b:=(p.dec' b).bind λu=>(q.dec' u.2).bind λv=>some (mk u.1 v.1,v.2)
 ok z:=p.ok (f1 z)/\q.ok (f2 z)
 a {b x r} hb h:=by obtain⟨⟨u,s⟩,e1,h⟩:=Option.bind_eq_some_iff.1 h;obtain⟨⟨v,s'⟩,e2,h⟩:=Option.bind_eq_some_iff.1 h;simp only[ay,Prod.mk.injEq] at h;obtain⟨rfl,rfl⟩:=h;obtain⟨g1,g2⟩:=p.a hb e1;have hs:Byt s:=(Byt.app.1 (g1▸hb)).2;obtain⟨g3,g4⟩:=q.a hs e2;rw[h1,h2];exact⟨by rw[g1,g3,List.append_assoc],g2,g4⟩
 b {x} r h:=by show(p.dec (p.enc (f1 x)++q.enc (f2 x)++r)).bind _=_;rw[List.append_assoc,p.b _ h.1];show(q.dec (q.enc (f2 x)++r)).bind _=_;rw[q.b _ h.2];show some (mk (f1 x) (f2 x),r)=_;rw[h3]
 c {b x r} h:=by obtain⟨⟨u,s⟩,e1,h⟩:=Option.bind_eq_some_iff.1 h;obtain⟨⟨v,s'⟩,e2,h⟩:=Option.bind_eq_some_iff.1 h;rw[p.c e1];show(q.dec' s).bind _=_;rw[q.c e2];exact h
 d {b x r} hb h:=by obtain⟨⟨u,s⟩,e1,h⟩:=Option.bind_eq_some_iff.1 h;obtain⟨⟨v,s'⟩,e2,h⟩:=Option.bind_eq_some_iff.1 h;simp only[ay,Prod.mk.injEq] at h;obtain⟨rfl,rfl⟩:=h;obtain⟨g1,g2⟩:=p.d hb e1;obtain⟨g3,g4⟩:=q.d g2 e2;rw[h1,h2];exact⟨⟨g1,g3⟩,g4⟩
 e z:=by rw[List.length_append];have:=p.e (f1 z);omega
 f z h:=Byt.app.2 ⟨p.f _ h.1,q.f _ h.2⟩
 g {b x r} hb h:=by obtain⟨⟨u,s⟩,e1,h⟩:=Option.bind_eq_some_iff.1 h;obtain⟨⟨v,s'⟩,e2,h⟩:=Option.bind_eq_some_iff.1 h;simp only[ay,Prod.mk.injEq] at h;obtain⟨rfl,rfl⟩:=h;have g1:=p.g hb e1;have g2:=q.g (p.d hb e1).2 e2;rw[h1,h2,List.length_append];omega
def cz{α:Type}(g:Bs->Option (α×Bs)):Nat->Bs->Option (List α×Bs)
 |0,b=>some ([],b)
 |n+1,b=>(g b).bind λu=>(cz g n u.2).bind λv=>some (u.1::v.1,v.2)
theorem iM{α:Type}{g:Bs->Option (α×Bs)}:∀{n:Nat}{b:Bs}{l:List α}{r:Bs},cz g n b=some (l,r)->l.length=n
 |0,b,l,r,h=>by
  simp only[cz,ay,Prod.mk.injEq] at h;rw[<-h.1];rfl
 |n+1,b,l,r,h=>by
  obtain⟨⟨u,s⟩,e1,h⟩:=Option.bind_eq_some_iff.1 h;obtain⟨⟨v,s'⟩,e2,h⟩:=Option.bind_eq_some_iff.1 h;simp only[ay,Prod.mk.injEq] at h;obtain⟨rfl,rfl⟩:=h;simp[iM e2]
section
variable{α:Type}(p:Cod α)
theorem tn:∀{n:Nat}{b:Bs}{l:List α}{r:Bs},Byt b->cz p.dec n b=some (l,r)->b=l.flatMap p.enc++r/\∀x∈l,p.ok x
 |0,b,l,r,_,h=>by
  simp only[cz,ay,Prod.mk.injEq] at h;obtain⟨rfl,rfl⟩:=h;exact⟨rfl,sM⟩
 |n+1,b,l,r,hb,h=>by
  obtain⟨⟨u,s⟩,e1,h⟩:=Option.bind_eq_some_iff.1 h;obtain⟨⟨v,s'⟩,e2,h⟩:=Option.bind_eq_some_iff.1 h;simp only[ay,Prod.mk.injEq] at h;obtain⟨rfl,rfl⟩:=h;obtain⟨g1,g2⟩:=p.a hb e1;obtain⟨g3,g4⟩:=tn ((Byt.app.1 (g1▸hb)).2) e2;dsimp only at g3;exact⟨by rw[g1,g3,List.flatMap_cons,List.append_assoc],λx hx=>(List.mem_cons.1 hx).elim (λe=>e▸g2) (g4 x)⟩
theorem tk:∀{l:List α}(r:Bs),(∀x∈l,p.ok x)->cz p.dec l.length (l.flatMap p.enc++r)=some (l,r)
 |[],r,_=>rfl
 |x::l,r,h=>by
  rw[List.flatMap_cons,List.append_assoc,List.length_cons,cz,p.b _ (h x List.mem_cons_self)];show(cz p.dec l.length (l.flatMap p.enc++r)).bind _=_;rw[tk r λy hy=>h y (List.mem_cons_of_mem _ hy)];rfl
theorem tj:∀{n:Nat}{b:Bs}{l:List α}{r:Bs},cz p.dec n b=some (l,r)->cz p.dec' n b=some (l,r)
 |0,b,l,r,h=>h
 |n+1,b,l,r,h=>by
  obtain⟨⟨u,s⟩,e1,h⟩:=Option.bind_eq_some_iff.1 h;obtain⟨⟨v,s'⟩,e2,h⟩:=Option.bind_eq_some_iff.1 h;rw[cz,p.c e1];show(cz p.dec' n s).bind _=_;rw[tj e2];exact h
theorem ti:∀{n:Nat}{b:Bs}{l:List α}{r:Bs},Byt b->cz p.dec' n b=some (l,r)->(∀x∈l,p.ok x)/\Byt r
 |0,b,l,r,hb,h=>by
  simp only[cz,ay,Prod.mk.injEq] at h;obtain⟨rfl,rfl⟩:=h;exact⟨sM,hb⟩
 |n+1,b,l,r,hb,h=>by
  obtain⟨⟨u,s⟩,e1,h⟩:=Option.bind_eq_some_iff.1 h;obtain⟨⟨v,s'⟩,e2,h⟩:=Option.bind_eq_some_iff.1 h;simp only[ay,Prod.mk.injEq] at h;obtain⟨rfl,rfl⟩:=h;obtain⟨g1,g2⟩:=p.d hb e1;obtain⟨g3,g4⟩:=ti g2 e2;exact⟨λx hx=>(List.mem_cons.1 hx).elim (λe=>e▸g1) (g3 x),g4⟩
theorem th:∀l:List α,8*l.length<=(l.flatMap p.enc).length
 |[]=>Nat.le_refl _
 |x::l=>by
  rw[List.flatMap_cons,List.length_append,List.length_cons];have:=p.e x;have:=th l;omega
theorem tg:∀{l:List α},(∀x∈l,p.ok x)->Byt (l.flatMap p.enc)
 |[],_=>λx hx=>by cases hx
 |x::l,h=>by
  rw[List.flatMap_cons];exact Byt.app.2 ⟨p.f _ (h x List.mem_cons_self),tg λy hy=>h y (List.mem_cons_of_mem _ hy)⟩
theorem tf:∀{n:Nat}{b:Bs}{l:List α}{r:Bs},Byt b->cz p.dec' n b=some (l,r)->(l.flatMap p.enc).length+r.length=b.length
 |0,b,l,r,_,h=>by
  simp only[cz,ay,Prod.mk.injEq] at h;obtain⟨rfl,rfl⟩:=h;simp
 |n+1,b,l,r,hb,h=>by
  obtain⟨⟨u,s⟩,e1,h⟩:=Option.bind_eq_some_iff.1 h;obtain⟨⟨v,s'⟩,e2,h⟩:=Option.bind_eq_some_iff.1 h;simp only[ay,Prod.mk.injEq] at h;obtain⟨rfl,rfl⟩:=h;have g1:(p.enc u).length+s.length=b.length:=p.g hb e1;have g2:(v.flatMap p.enc).length+s'.length=s.length:=tf (p.d hb e1).2 e2;rw[List.flatMap_cons,List.length_append];omega
def eu(dI:Bs->Option (Int×Bs))(g:Nat->Bs->Option (List α×Bs))(b:Bs):Option (List α×Bs):=
 (dI b).bind λu=>if u.1<0\/(u.2.length:Int) / 8<u.1 then none else g u.1.toNat u.2
def Cod.list(i:Cod Int)(hi:∀n:Nat,n<9223372036854775808->i.ok (n:Int))(hi':∀n:Int,i.ok n->n<9223372036854775808):Cod (List α) where
 enc l:=i.enc (l.length:Int)++l.flatMap p.enc
 dec:=eu i.dec (cz p.dec)
 dec':=eu i.dec' (cz p.dec')
 ok l:=(l.length<9223372036854775808)/\∀x∈l,p.ok x
 a {b x r} hb h:=by obtain⟨⟨u,s⟩,e1,h⟩:=Option.bind_eq_some_iff.1 h;dsimp only at h;split at h;cases h;rename_i hc;obtain⟨g1,g2⟩:=i.a hb e1;obtain⟨g3,g4⟩:=tn p ((Byt.app.1 (g1▸hb)).2) h;have hl:=iM h;have hu:=hi' u g2;have:(x.length:Int)=u:=oM;rw[this];exact⟨by rw[g1,g3,List.append_assoc],oM,g4⟩
 b {x} r h:=by show(i.dec (i.enc (x.length:Int)++x.flatMap p.enc++r)).bind _=_;rw[List.append_assoc,i.b _ (hi _ h.1),bnS];have:=th p x;rw[if_neg (by simp only[List.length_append];omega)];exact tk p r h.2
 c {b x r} h:=by obtain⟨⟨u,s⟩,e1,h⟩:=Option.bind_eq_some_iff.1 h;unfold eu;rw[i.c e1,bnS];dsimp only at h⊢;split at h;cases h;rename_i hc;rw[if_neg hc];exact tj p h
 d {b x r} hb h:=by obtain⟨⟨u,s⟩,e1,h⟩:=Option.bind_eq_some_iff.1 h;dsimp only at h;split at h;cases h;obtain⟨g1,g2⟩:=i.d hb e1;obtain⟨g3,g4⟩:=ti p g2 h;have hl:=iM h;have hu:=hi' u g1;exact⟨⟨oM,g3⟩,g4⟩
 e l:=by rw[List.length_append];have:=i.e (l.length:Int);omega
 f l h:=Byt.app.2 ⟨i.f _ (hi _ h.1),tg p h.2⟩
 g {b x r} hb h:=by obtain⟨⟨u,s⟩,e1,h⟩:=Option.bind_eq_some_iff.1 h;dsimp only at h;split at h;cases h;have g1:=i.g hb e1;have g2:=tf p (i.d hb e1).2 h;have hl:=iM h;have:(x.length:Int)=u:=oM;rw[this,List.length_append];omega
end
def dig:Nat->Int->Bs
 |0,_=> []
 |n+1,u=>u%256::dig n (u / 256)
def val:Bs->Int
 |[]=>0
 |x::l=>x+256*val l
theorem qO:∀(n:Nat)(u:Int),(dig n u).length=n
 |0,_=>rfl
 |n+1,u=>by rw[dig,List.length_cons,qO n]
theorem qQ:∀(n:Nat)(u:Int),Byt (dig n u)
 |0,_=>λx hx=>by cases hx
 |n+1,u=>λx hx=>by
  rw[dig] at hx;rcases List.mem_cons.1 hx with rfl|hx
  omega;exact qQ n _ x hx
theorem qN:∀{l:Bs},Byt l->dig l.length (val l)=l
 |[],_=>rfl
 |x::l,h=>by
  have hx:=h x List.mem_cons_self;have e1:(x+256*val l)%256=x:=oM;have e2:(x+256*val l) / 256=val l:=oM;rw[List.length_cons,val,dig,e1,e2,qN λy hy=>h y (List.mem_cons_of_mem _ hy)]
theorem hU:∀{l:Bs},Byt l->0<=val l
 |[],_=>Int.le_refl _
 |x::l,h=>by
  have hx:=h x List.mem_cons_self;have:=hU λy hy=>h y (List.mem_cons_of_mem _ hy);rw[val];omega
theorem val_8{l:Bs}(h:Byt l)(hl:l.length=8):0<=val l/\val l<18446744073709551616:=by
 match l,hl with
 |[a,b,c,d,e,f,g,i],_=>have h1:=h a sM;have h2:=h b sM;have h3:=h c sM;have h4:=h d sM;have h5:=h e sM;have h6:=h f sM;have h7:=h g sM;have h8:=h i sM;simp only[val];omega
theorem sK{u:Int}(h:0<=u)(h2:u<18446744073709551616):val (dig 8 u)=u:=by simp only[dig,val];omega
def sgn(u:Int):Int:=if u<9223372036854775808 then u else u - 18446744073709551616
def e8(v:Int):Bs:=dig 8 (v%18446744073709551616)
def d8(b:Bs):Option (Int×Bs):=if b.length<8 then none else some (sgn (val (b.take 8)),b.drop 8)
abbrev i64(v:Int):Prop:= -9223372036854775808<=v/\v<9223372036854775808
theorem bV(v:Int):(e8 v).length=8:=qO 8 _
theorem k8(v:Int):Byt (e8 v):=qQ 8 _
theorem pI{b:Bs}{x:Int}{r:Bs}(hb:Byt b)(h:d8 b=some (x,r)):b=e8 x++r/\i64 x:=by
 unfold d8 at h;split at h;cases h;rename_i hl;simp only[ay,Prod.mk.injEq] at h;obtain⟨rfl,rfl⟩:=h;have hl8:(b.take 8).length=8:=by rw[List.length_take];omega
 have hbt:Byt (b.take 8):=λy hy=>hb y (List.mem_of_mem_take hy);obtain⟨v1,v2⟩:=val_8 hbt hl8;have e1:sgn (val (b.take 8))%18446744073709551616=val (b.take 8):=by unfold sgn;split<;>omega
 refine⟨?_,by unfold sgn;split<;>constructor<;>omega⟩;unfold e8;have:=qN hbt;rw[hl8] at this;rw[e1,this,List.take_append_drop]
theorem wb{x:Int}(r:Bs)(h:i64 x):d8 (e8 x++r)=some (x,r):=by have hl:=bV x;unfold d8;rw[if_neg (by rw[List.length_append];omega),List.take_append_of_le_length oM,List.take_of_length_le oM,List.drop_append_of_le_length oM,List.drop_of_length_le oM,List.nil_append];congr 2;unfold e8;rw[sK oM oM];unfold sgn;obtain⟨h1,h2⟩:=h;split<;>omega
theorem pH{b:Bs}{x:Int}{r:Bs}(hb:Byt b)(h:d8 b=some (x,r)):i64 x/\Byt r:=by obtain⟨h1,h2⟩:=pI hb h;exact⟨h2,(Byt.app.1 (h1▸hb)).2⟩
theorem pG{b:Bs}{x:Int}{r:Bs}(y:Int)(h:d8 b=some (x,r)):(e8 y).length+r.length=b.length:=by unfold d8 at h;split at h;cases h;simp only[ay,Prod.mk.injEq] at h;rw[<-h.2,bV,List.length_drop];omega
def aY:Cod Int where
 enc:=e8
 dec:=d8
 dec':=d8
 ok:=i64
 a:=pI
 b:=wb
 c h:=h
 d:=pH
 e x:=by rw[bV];exact Nat.le_refl _
 f x _:=k8 x
 g _ h:=pG _ h
def cN:Cod Int where
 enc:=e8
 dec b:=(d8 b).bind λu=>if u.1%256=u.1 then some u else none
 dec' b:=(d8 b).bind λu=>some (u.1%256,u.2)
 ok v:=0<=v/\v<=255
 a {b x r} hb h:=by obtain⟨⟨u,s⟩,e1,h⟩:=Option.bind_eq_some_iff.1 h;dsimp only at h;split at h;simp only[ay,Prod.mk.injEq] at h;obtain⟨rfl,rfl⟩:=h;exact⟨(pI hb e1).1,oM⟩;cases h
 b {x} r h:=by rw[wb r ⟨oM,oM⟩,bnS,if_pos oM]
 c {b x r} h:=by obtain⟨⟨u,s⟩,e1,h⟩:=Option.bind_eq_some_iff.1 h;dsimp only at h;split at h;rename_i hc;simp only[ay,Prod.mk.injEq] at h;obtain⟨rfl,rfl⟩:=h;rw[e1,bnS,hc];cases h
 d {b x r} hb h:=by obtain⟨⟨u,s⟩,e1,h⟩:=Option.bind_eq_some_iff.1 h;simp only[ay,Prod.mk.injEq] at h;obtain⟨rfl,rfl⟩:=h;exact⟨oM,(pH hb e1).2⟩
 e x:=by rw[bV];exact Nat.le_refl _
 f x _:=k8 x
 g {b x r} hb h:=by obtain⟨⟨u,s⟩,e1,h⟩:=Option.bind_eq_some_iff.1 h;simp only[ay,Prod.mk.injEq] at h;obtain⟨rfl,rfl⟩:=h;exact pG _ e1
def nl:Cod Bool where
 enc b:=e8 (if b then 1 else 0)
 dec b:=(d8 b).bind λu=>if u.1<0\/1<u.1 then none else some (decide (u.1=1),u.2)
 dec' b:=(d8 b).bind λu=>some (decide (u.1=1),u.2)
 ok _:=True
 a {b x r} hb h:=by
  obtain⟨⟨u,s⟩,e1,h⟩:=Option.bind_eq_some_iff.1 h;dsimp only at h;split at h;cases h;simp only[ay,Prod.mk.injEq] at h;obtain⟨rfl,rfl⟩:=h;refine⟨?_,trivial⟩;have:(if decide (u=1)=true then(1:Int) else 0)=u:=by by_cases hu:u=1;simp[hu];simp[hu];omega
  rw[this];exact(pI hb e1).1
 b {x} r _:=by rw[wb r (by cases x<;>exact⟨by decide,by decide⟩),bnS];cases x<;>rfl
 c {b x r} h:=by obtain⟨⟨u,s⟩,e1,h⟩:=Option.bind_eq_some_iff.1 h;dsimp only at h;split at h;cases h;rw[e1];exact h
 d {b x r} hb h:=by obtain⟨⟨u,s⟩,e1,h⟩:=Option.bind_eq_some_iff.1 h;simp only[ay,Prod.mk.injEq] at h;obtain⟨rfl,rfl⟩:=h;exact⟨trivial,(pH hb e1).2⟩
 e x:=by rw[bV];exact Nat.le_refl _
 f x _:=k8 _
 g {b x r} hb h:=by obtain⟨⟨u,s⟩,e1,h⟩:=Option.bind_eq_some_iff.1 h;simp only[ay,Prod.mk.injEq] at h;obtain⟨rfl,rfl⟩:=h;exact pG _ e1
end Go.Tg
namespace Go.Proofs.YtejcfgjpdocaoaaGreatDoor
open Go Go.Sk Go.Tg
open Go.IntKind (i64)
abbrev pr{α β:Type}(p:Cod α)(q:Cod β):Cod (α×β):=Cod.two p q Prod.mk Prod.fst Prod.snd (λ_ _=>rfl) (λ_ _=>rfl) (λ_=>rfl)
abbrev liC{α:Type}(p:Cod α):Cod (List α):=Cod.list p aY (λn h=>⟨oM,oM⟩) (λn h=>h.2)
def ik:Cod aJ:=Cod.two cN (pr aY (pr aY (pr aY (pr aY (pr aY aY))))) (λo u=>⟨o,u.1,u.2.1,u.2.2.1,u.2.2.2.1,u.2.2.2.2.1,u.2.2.2.2.2⟩) (·.op) (λx=>(x.d,x.a,x.b,x.n,x.m,x.to)) (λ_ _=>rfl) (λ_ _=>rfl) (λ_=>rfl)
def iT:Cod ak:=Cod.two aY (pr aY (pr aY nl)) (λo u=>⟨o,u.1,u.2.1,u.2.2⟩) (·.from_) (λx=>(x.to,x.at_,x.clean)) (λ_ _=>rfl) (λ_ _=>rfl) (λ_=>rfl)
def iN:Cod Loop:=Cod.two aY (pr aY aY) (λo u=>⟨o,u.1,u.2⟩) (·.head) (λx=>(x.back,x.bound)) (λ_ _=>rfl) (λ_ _=>rfl) (λ_=>rfl)
def ja:Cod be:=Cod.two cN (pr aY (pr aY (pr aY aY))) (λo u=>⟨o,u.1,u.2.1,u.2.2.1,u.2.2.2⟩) (·.kind) (λx=>(x.entry,x.guard,x.time,x.at_)) (λ_ _=>rfl) (λ_ _=>rfl) (λ_=>rfl)
def gP:Cod az:=Cod.two (liC ja) (pr aY aY) (λo u=>⟨o,u.1,u.2⟩) (·.alts) (λx=>(x.obj,x.else_)) (λ_ _=>rfl) (λ_ _=>rfl) (λ_=>rfl)
def gq:Cod Obj:=Cod.two aY (pr aY (pr aY (pr nl (liC aY)))) (λo u=>⟨o,u.1,u.2.1,u.2.2.1,u.2.2.2⟩) (·.size) (λx=>(x.lo,x.hi,x.ptr,x.set_)) (λ_ _=>rfl) (λ_ _=>rfl) (λ_=>rfl)
def im:Cod bq:=Cod.two aY (pr aY aY) (λo u=>⟨o,u.1,u.2⟩) (·.o) (λx=>(x.slot,x.v)) (λ_ _=>rfl) (λ_ _=>rfl) (λ_=>rfl)
def jC:Cod aB:=Cod.two (liC aY) (liC aY) aB.mk (·.ins) (·.outs) (λ_ _=>rfl) (λ_ _=>rfl) (λ_=>rfl)
def gg:Cod aK:=Cod.two aY (pr aY (pr (liC jC) aY)) (λo u=>⟨o,u.1,u.2.1,u.2.2⟩) (·.prio) (λx=>(x.at_,x.entries,x.deadline)) (λ_ _=>rfl) (λ_ _=>rfl) (λ_=>rfl)
def botC(α:Type):Cod α where
 enc _:=e8 0
 dec _:=none
 dec' _:=none
 ok _:=False
 a _ h:=by cases h
 b _ h:=h.elim
 c h:=by cases h
 d _ h:=by cases h
 e _:=by rw[bV];exact Nat.le_refl _
 f _ h:=h.elim
 g _ h:=by cases h
def exC:Nat->Cod ae
 |0=>botC ae
 |n+1=>Cod.two (pr cN (pr cN (pr aY (pr aY (pr aY (pr aY (pr aY aY))))))) (liC (exC n)) (λu l=>⟨u.1,u.2.1,u.2.2.1,u.2.2.2.1,u.2.2.2.2.1,u.2.2.2.2.2.1,u.2.2.2.2.2.2.1,u.2.2.2.2.2.2.2,l⟩) (λx=>(x.kind,x.op,x.n,x.o,x.off,x.len,x.lo,x.hi)) (λx=>x.l) (λ_ _=>rfl) (λ_ _=>rfl) (λz=>by cases z;rfl)
def ib(N:Nat):Cod aT:=Cod.two aY (liC (exC N)) aT.mk (·.ceiling) (·.barriers) (λ_ _=>rfl) (λ_ _=>rfl) (λ_=>rfl)
def gQ:Cod bf:=Cod.two aY cN bf.mk (·.at_) (·.kind) (λ_ _=>rfl) (λ_ _=>rfl) (λ_=>rfl)
abbrev mm:Cod (List aJ×List ak×List Loop×List az×List (List Int)):=pr (liC ik) (pr (liC iT) (pr (liC iN) (pr (liC gP) (liC (liC aY)))))
abbrev nX(N:Nat):Cod (List Obj×List bq×Int×List aK×List aT×List bf):=pr (liC gq) (pr (liC im) (pr aY (pr (liC gg) (pr (liC (ib N)) (liC gQ)))))
def cA(N:Nat):Cod aC:=Cod.two mm (nX N) (λa b=>⟨a.1,a.2.1,a.2.2.1,a.2.2.2.1,a.2.2.2.2,b.1,b.2.1,b.2.2.1,b.2.2.2.1,b.2.2.2.2.1,b.2.2.2.2.2⟩) (λt=>(t.insns,t.handlers,t.loops,t.selects,t.lists)) (λt=>(t.objs,t.inits,t.excs,t.tasks,t.prots,t.checks)) (λ_ _=>rfl) (λ_ _=>rfl) (λ_=>rfl)
set_option maxRecDepth 10000
theorem ep{x:Int}(h1: -9223372036854775808<=x)(h2:x<=9223372036854775807):i64.wrap x=x:=by rw[IntKind.wrap_i64];omega
theorem dn{α β:Sort _}(k:α)(f:α->β):aq k f=f k:=rfl
theorem dh{α:Type}{L:List α}{i:Nat}(h:i<L.length):idx L (i:Int)=some L[i]:=by unfold idx;rw[dcT (Int.natCast_nonneg i)];simp[h]
theorem fu{α:Type}{c:Bool}(o:Option α)(h:c=true):aS c o=o:=by rw[h];rfl
theorem glt{i n:Nat}(h:i<n):decide ((i:Int)<(n:Int))=true:=dcT oM
theorem oy{i n:Nat}(h:¬i<n):decide ((i:Int)<(n:Int))=false:=dcF oM
theorem xz(a b i:Nat)(h:b<2^i):(b|||a*2^i)=b+a*2^i:=by have:=Nat.shiftLeft_add_eq_or_of_lt h a;rw[Nat.shiftLeft_eq] at this;rw[Nat.or_comm,<-this];omega
theorem nI{u:Int}(h:0<=u)(h2:u<18446744073709551616):i64.wrap u=sgn u:=by rw[IntKind.wrap_i64];unfold sgn;split<;>omega
theorem p64:(2^64:Nat)=18446744073709551616:=sM
theorem qb(x:Int):val [x]=x:=by rw[val,val];omega
theorem sR(v x:Int)(t:Nat)(ht:t<8)(hv:0<=v)(hv2:v<2^(8*t))(hx:0<=x/\x<256):
  i64.wrap (BitVec.ofInt i64.bits v|||BitVec.ofInt i64.bits (i64.wrap ((i64.wrap x)*2^min (Int.toNat (i64.wrap (8*(t:Int)))) i64.bits))).toNat=sgn (v+x*2^(8*t))/\v+x*2^(8*t)<2^(8*(t+1)):=by
 have hb:i64.bits=64:=rfl;rw[hb,ep (x:=x) oM oM,ep (x:=8*(t:Int)) oM oM];have e1:min (Int.toNat (8*(t:Int))) 64=8*t:=oM;rw[e1,BitVec.toNat_or,BitVec.toNat_ofInt,BitVec.toNat_ofInt];have hp:(2:Int)^(8*t)=((2^(8*t):Nat):Int):=by push_cast;rfl
 have hp2:2^(8*(t+1))=2^(8*t)*256:=by grind
 have hp3:2^(8*t)<=72057594037927936:=by have:=Nat.pow_le_pow_right (n:=2) dC (show 8*t<=56 by omega);simpa using this
 obtain⟨a,rfl⟩:=Int.eq_ofNat_of_zero_le hv;obtain⟨c,rfl⟩:=Int.eq_ofNat_of_zero_le hx.1;rw[hp] at hv2⊢;generalize hq:2^(8*t)=q at*
 have hacq:a+c*q<q*256:=by have:c*q<=255*q:=Nat.mul_le_mul oM (Nat.le_refl _);omega
 have e2:((a:Int)%((2^64:Nat):Int)).toNat=a:=by rw[p64];omega
 have e3:(i64.wrap ((c:Int)*(q:Int))%((2^64:Nat):Int)).toNat=c*q:=by grind [p64,nI,sgn]
 rw[e2,e3];have e4:(a|||c*q)=a+c*q:=by grind [xz]
 grind [nI]
theorem mF:∀(a b:Bs),val (a++b)=val a+val b*2^(8*a.length)
 |[],b=>by simp[val]
 |x::a,b=>by
  rw[List.cons_append,val,val,mF a b,List.length_cons,show 8*(a.length+1)=8*a.length+8 by omega,Int.pow_add];grind
theorem f116_l(b:Bs)(hb:Byt b)(hl:8<=b.length):∀(n t:Nat),t<=8->8<n+t->f116_l1 b (λv=>some v) n (sgn (val (b.take t))) (t:Int)=some (sgn (val (b.take 8)))
 |0,t,h,h2=>oM
 |n+1,t,h,h2=>by
  rw[f116_l1];by_cases ht:t<8;have hbt:Byt (b.take t):=λy hy=>hb y (List.mem_of_mem_take hy);have hx:=hb b[t] (List.getElem_mem oM);have hv:=hU hbt;have hlt:(b.take t).length=t:=by grind
  have htk:b.take (t+1)=b.take t++ [b[t]]:=List.take_succ_eq_append_getElem oM;have hval:val (b.take (t+1))=val (b.take t)+b[t]*2^(8*t):=by rw[htk,mF,hlt,qb]
  have hub:∀s:Nat,s<=8->val (b.take s)<2^(8*s):=by
   intro s;induction s with
   |zero=>grind [val]
   |succ s ih=>
    intro hs;have ih:=ih oM;have hxs:=hb b[s] (List.getElem_mem oM);have hls:(b.take s).length=s:=by grind
    have hvs:=hU (l:=b.take s) λy hy=>hb y (List.mem_of_mem_take hy);rw[show b.take (s+1)=b.take s++ [b[s]] from List.take_succ_eq_append_getElem oM,mF,hls,qb];exact(sR (val (b.take s)) b[s] s oM hvs ih hxs).2
  have h56:val (b.take t)<72057594037927936:=by refine Int.lt_of_lt_of_le (hub t h) ?_;have:=Nat.pow_le_pow_right (n:=2) dC (show 8*t<=56 by omega);grind
  have hsg:sgn (val (b.take t))=val (b.take t):=by grind [sgn]
  have hst:=(sR (val (b.take t)) b[t] t ht hv (hub t h) hx).1;rw[dcT (show(t:Int)<8 by omega),cdT,dh (show t<b.length by omega),bnS,fu _ (by unfold shc;exact dcT (by rw[ep oM oM];omega)),hsg,hst,<-hval,ep (x:=(t:Int)+1) oM oM];exact f116_l b hb hl n (t+1) oM oM;grind
theorem f116_eq{b:Bs}(hb:Byt b)(hl:8<=b.length):f116 b=some (sgn (val (b.take 8))):=by unfold f116;rw[dn];exact f116_l b hb hl 9 0 oM oM
abbrev Rdr(α:Type):=List Int->Bool->List α->Option (List Int×Bool×List α)
structure ji{α β:Type}(b:Bs)(bad:Bool)(x:α)(dec:Bs->Option (β×Bs))(put:β->α->α)(b':Bs)(bad':Bool)(x':α):Prop where
 y:Byt b'
 l:b'.length<=b.length
 t:bad=true->bad'=true
 s:bad=false->∀y r,dec b=some (y,r)->b'=r/\bad'=false/\x'=put y x
 n:bad=false->dec b=none->bad'=true
def Ek{α β:Type}(M k:Nat)(F:Rdr α)(dec:Bs->Option (β×Bs))(put:β->α->α):Prop:=
 ∀b bad l (hk:k<l.length),Byt b->b.length<=M->∃b' bad' x',F b bad l=some (b',bad',l.set k x')/\ji b bad l[k] dec put b' bad' x'
abbrev dc2{β γ δ:Type}(d1:Bs->Option (β×Bs))(d2:Bs->Option (γ×Bs))(mk:β->γ->δ):Bs->Option (δ×Bs):=λb=>(d1 b).bind λu=>(d2 u.2).bind λv=>some (mk u.1 v.1,v.2)
theorem ot{α β γ δ:Type}{b b1 b2:Bs}{bad bad1 bad2:Bool}{x x1 x2:α}{d1:Bs->Option (β×Bs)}{d2:Bs->Option (γ×Bs)}{p1:β->α->α}{p2:γ->α->α}{mk:β->γ->δ}{put:δ->α->α}
  (g1:ji b bad x d1 p1 b1 bad1 x1)(g2:ji b1 bad1 x1 d2 p2 b2 bad2 x2)(hp:∀u v x,p2 v (p1 u x)=put (mk u v) x):ji b bad x (dc2 d1 d2 mk) put b2 bad2 x2:=by
 refine⟨g2.y,Nat.le_trans g2.l g1.l,λh=>g2.t (g1.t h),λh y r hd=>?_,λh hd=>?_⟩;obtain⟨⟨u,s⟩,q1,hd⟩:=Option.bind_eq_some_iff.1 hd;obtain⟨⟨v,s'⟩,q2,hd⟩:=Option.bind_eq_some_iff.1 hd;obtain⟨rfl,rfl⟩:=hd;obtain⟨rfl,rfl,rfl⟩:=g1.s h u s q1;obtain⟨rfl,rfl,rfl⟩:=g2.s rfl v s' q2;grind;cases q1:d1 b with
 |none=>exact g2.t (g1.n h q1)
 |some u=>
  rw[dc2,q1,bnS] at hd;obtain⟨rfl,rfl,rfl⟩:=g1.s h u.1 u.2 q1;cases q2:d2 u.2 with
  |none=>exact g2.n rfl q2
  |some v=>grind
theorem Ek.call{α β γ δ:Type}{M k:Nat}{F:Rdr α}{K:List Int×Bool×List α->Option (List Int×Bool×List α)}{d1:Bs->Option (β×Bs)}{d2:Bs->Option (γ×Bs)}{p1:β->α->α}{p2:γ->α->α}(mk:β->γ->δ){put:δ->α->α}
  (h1:Ek M k F d1 p1)(h2:Ek M k (λb bad l=>K (b,bad,l)) d2 p2)(hp:∀u v x,p2 v (p1 u x)=put (mk u v) x):Ek M k (λb bad l=>Option.bind (F b bad l) K) (dc2 d1 d2 mk) put:=λb bad l hk hb hM=>by
 obtain⟨b1,bad1,x1,e1,g1⟩:=h1 b bad l hk hb hM;have hk2:k<(l.set k x1).length:=by grind
 obtain⟨b2,bad2,x2,e2,g2⟩:=h2 b1 bad1 (l.set k x1) hk2 g1.y (by have:=g1.l;omega);have hx:(l.set k x1)[k]=x1:=sM;rw[hx] at g2;refine⟨b2,bad2,x2,?_,ot g1 g2 hp⟩;grind [List.set_set]
theorem f53_eq{b:Bs}(hb:Byt b)(bad:Bool)(v:Int):f53 b bad v=some (match d8 b with|none=>(b,true,v)|some u=>(u.2,bad,u.1)):=by unfold f53 d8;by_cases h:b.length<8;grind;rw[dcF (show¬(b.length:Int)<8 by omega),cdF,f116_eq hb oM,bnS,if_neg h,fu];grind [bu,List.take_of_length_le];grind [bX]
theorem gz{b:Bs}(hb:Byt b){u:Int×Bs}(h:d8 b=some u):Byt u.2/\u.2.length<=b.length/\i64 u.1:=by obtain⟨h1,h2⟩:=pI hb h;refine⟨(Byt.app.1 (h1▸hb)).2,?_,h2⟩;grind
theorem kQ{α:Type}{b:Bs}(hb:Byt b)(bad:Bool)(x:α)(set:α->Int->α):∃b' bad' x',(match d8 b with|none=>(b,true,x)|some u=>(u.2,bad,set x u.1))=(b',bad',x')/\ji b bad x d8 (λv x=>set x v) b' bad' x':=by
 generalize hd:d8 b=o;cases o with
 |none=>exact⟨b,true,x,rfl,hb,Nat.le_refl _,λ_=>rfl,λ_ y r h2=>(by rw[hd] at h2;cases h2),λ_ _=>rfl⟩
 |some u=>obtain⟨g1,g2,g3⟩:=gz hb hd;exact⟨u.2,bad,set x u.1,rfl,g1,g2,id,λh2 y r e=>(by rw[hd,ay] at e;subst e;exact⟨rfl,h2,rfl⟩),λ_ e=>(by rw[hd] at e;cases e)⟩
section
variable{α γ δ:Type}{M k:Nat}(get:α->Int)(set:α->Int->α){K:List α->List Int->Bool->Int->Option (List Int×Bool×List α)}
theorem nR(hgs:∀x v,get (set x v)=v)(hsg:∀x,set x (get x)=x){b:Bs}(hb:Byt b)(bad:Bool){l:List α}(hk:k<l.length):∃b' bad' x' v',(aq K λkk=>Option.bind (idx l (k:Int)) λx=>Option.bind (f53 b bad (get x)) λr=>Option.bind (idx l (k:Int)) λy=>Option.bind (idx (List.set l (Int.toNat (k:Int)) (set y r.2.2)) (k:Int)) λz=>bif !decide (get z=r.2.2) then kk (List.set l (Int.toNat (k:Int)) (set y r.2.2)) r.1 true r.2.2 else kk (List.set l (Int.toNat (k:Int)) (set y r.2.2)) r.1 r.2.1 r.2.2)=K (l.set k x') b' bad' v'/\ji b bad l[k] d8 (λv x=>set x v) b' bad' x':=by
 obtain⟨b',bad',x',e,hl⟩:=kQ hb bad l[k] set;rw[dn,dh hk,bnS,f53_eq hb,bnS,bnS,Int.toNat_natCast];refine⟨b',bad',x',(match d8 b with|none=>(b,true,get l[k])|some u=>(u.2,bad,u.1)).2.2,?_,hl⟩;generalize d8 b=o at e;have hi:∀z:α,idx (l.set k z) (k:Int)=some z:=λz=>by
  grind [dh]
 cases o with
 |none=>simp_all
 |some u=>grind
theorem fA{d2:Bs->Option (γ×Bs)}{p2:γ->α->α}(mk:Int->γ->δ){put:δ->α->α}(hgs:∀x v,get (set x v)=v)(hsg:∀x,set x (get x)=x)
  (h2:∀v,Ek M k (λb bad l=>K l b bad v) d2 p2)(hp:∀u v x,p2 v (set x u)=put (mk u v) x):
  Ek M k (λb bad l=>aq K λkk=>Option.bind (idx l (k:Int)) λx=>Option.bind (f53 b bad (get x)) λr=>Option.bind (idx l (k:Int)) λy=>Option.bind (idx (List.set l (Int.toNat (k:Int)) (set y r.2.2)) (k:Int)) λz=>bif !decide (get z=r.2.2) then kk (List.set l (Int.toNat (k:Int)) (set y r.2.2)) r.1 true r.2.2 else kk (List.set l (Int.toNat (k:Int)) (set y r.2.2)) r.1 r.2.1 r.2.2) (dc2 d8 d2 mk) put:=λb bad l hk hb hM=>by
 obtain⟨b1,bad1,x1,v1,e1,g1⟩:=nR (K:=K) get set hgs hsg hb bad hk;have hk2:k<(l.set k x1).length:=by grind
 obtain⟨b2,bad2,x2,e2,g2⟩:=h2 v1 b1 bad1 (l.set k x1) hk2 g1.y (by have:=g1.l;omega);have hx:(l.set k x1)[k]=x1:=sM;rw[hx] at g2;exact⟨b2,bad2,x2,e1.trans (e2.trans (by rw[List.set_set])),ot g1 g2 hp⟩
theorem ec(hgs:∀x v,get (set x v)=v)(hsg:∀x,set x (get x)=x)(h2:∀l b bad v,K l b bad v=some (b,bad,l)):
  Ek M k (λb bad l=>aq K λkk=>Option.bind (idx l (k:Int)) λx=>Option.bind (f53 b bad (get x)) λr=>Option.bind (idx l (k:Int)) λy=>Option.bind (idx (List.set l (Int.toNat (k:Int)) (set y r.2.2)) (k:Int)) λz=>bif !decide (get z=r.2.2) then kk (List.set l (Int.toNat (k:Int)) (set y r.2.2)) r.1 true r.2.2 else kk (List.set l (Int.toNat (k:Int)) (set y r.2.2)) r.1 r.2.1 r.2.2) d8 (λv x=>set x v):=λb bad l hk hb hM=>by
 obtain⟨b1,bad1,x1,v1,e1,g1⟩:=nR (K:=K) get set hgs hsg hb bad hk;grind
end
section
variable{α γ δ:Type}{M k:Nat}(set:α->Int->α){K:List α->List Int->Bool->Option (List Int×Bool×List α)}
theorem Ek.inl{d2:Bs->Option (γ×Bs)}{p2:γ->α->α}(mk:Int->γ->δ){put:δ->α->α}(h2:Ek M k (λb bad l=>K l b bad) d2 p2)(hp:∀u v x,p2 v (set x u)=put (mk u v) x):
  Ek M k (λb bad l=>aq K λkk=>bif decide ((List.length b:Int)<8) then kk l b true else Option.bind (f116 b) λr=>Option.bind (idx l (k:Int)) λx=>aS (bX b 8 (List.length b:Int)) (kk (List.set l (Int.toNat (k:Int)) (set x r)) (bu b 8 (List.length b:Int)) bad)) (dc2 d8 d2 mk) put:=λb bad l hk hb hM=>by
 obtain⟨b1,bad1,x1,e1,g1⟩:=kQ hb bad l[k] set;have hk2:k<(l.set k x1).length:=by grind
 obtain⟨b2,bad2,x2,e2,g2⟩:=h2 b1 bad1 (l.set k x1) hk2 g1.y (by have:=g1.l;omega);have hx:(l.set k x1)[k]=x1:=sM;rw[hx] at g2;refine⟨b2,bad2,x2,?_,ot g1 g2 hp⟩;rw[List.set_set] at e2;refine Eq.trans ?_ e2;dsimp only;rw[dn];unfold d8 at e1;by_cases h:b.length<8;rw[if_pos h] at e1;obtain⟨rfl,rfl,rfl⟩:=e1;rw[dcT (show(b.length:Int)<8 by omega),cdT];simp;rw[if_neg h] at e1;obtain⟨rfl,rfl,rfl⟩:=e1;rw[dcF (show¬(b.length:Int)<8 by omega),cdF,f116_eq hb oM,bnS,dh hk,bnS,fu];grind [bu,List.take_of_length_le];grind [bX]
end
theorem u8w(v:Int):IntKind.u8.wrap v=v%256:=by simp only[IntKind.wrap,IntKind.bits,IntKind.signed];simp
theorem Ek.eq{α β:Type}{M k:Nat}{F:Rdr α}{d d':Bs->Option (β×Bs)}{p:β->α->α}(h:Ek M k F d p)(e:∀b,d b=d' b):Ek M k F d' p:=by have:d=d':=funext e;grind
section
variable{α:Type}{M k:Nat}(get:α->Int)(set:α->Int->α){K:List α->List Int->Bool->Int->Option (List Int×Bool×List α)}
theorem lu(hgs:∀x v,get (set x v)=v)(h2:∀l b bad v,K l b bad v=some (b,bad,l)):
  Ek M k (λb bad l=>aq K λkk=>Option.bind (idx l (k:Int)) λx=>Option.bind (f53 b bad (i64.wrap (get x))) λr=>Option.bind (idx l (k:Int)) λy=>Option.bind (idx (List.set l (Int.toNat (k:Int)) (set y (IntKind.u8.wrap r.2.2))) (k:Int)) λz=>bif !decide (i64.wrap (get z)=r.2.2) then kk (List.set l (Int.toNat (k:Int)) (set y (IntKind.u8.wrap r.2.2))) r.1 true r.2.2 else kk (List.set l (Int.toNat (k:Int)) (set y (IntKind.u8.wrap r.2.2))) r.1 r.2.1 r.2.2) cN.dec (λv x=>set x v):=λb bad l hk hb hM=>by
 dsimp only;rw[dn,dh hk,bnS,f53_eq hb,bnS,bnS,Int.toNat_natCast];have hi:∀z:α,idx (l.set k z) (k:Int)=some z:=λz=>by
  grind [dh]
 generalize hd:d8 b=o;cases o with
 |none=>
  rw[hi,bnS];simp only[h2];have hc:∀(c:Bool)(A:Option (List Int×Bool×List α)),(bif c then A else A)=A:=by grind
  rw[hc];refine⟨b,true,_,rfl,hb,Nat.le_refl _,λ_=>rfl,λ_ y r h=>?_,λ_ _=>rfl⟩;rw[show cN.dec b=(d8 b).bind _ from rfl,hd] at h;cases h
 |some u=>obtain⟨g1,g2,g3⟩:=gz hb hd;rw[hi,bnS,hgs];simp only[h2];rw[u8w,ep oM oM];by_cases hu:u.1%256=u.1;rw[dcT hu,Bool.not_true,cdF];refine⟨u.2,bad,_,rfl,g1,g2,id,λh y r e=>?_,λ_ e=>?_⟩;rw[show cN.dec b=(d8 b).bind _ from rfl,hd,bnS,if_pos hu,ay] at e;grind;rw[show cN.dec b=(d8 b).bind _ from rfl,hd,bnS,if_pos hu] at e;cases e;rw[dcF hu,Bool.not_false,cdT];refine⟨u.2,true,_,rfl,g1,g2,λ_=>rfl,λh y r e=>?_,λ_ _=>rfl⟩;rw[show cN.dec b=(d8 b).bind _ from rfl,hd,bnS,if_neg hu] at e;cases e
end
theorem f131_a_el(M k:Nat):Ek M k (λb bad l=>f131_a b bad l (k:Int)) (dc2 d8 (dc2 d8 d8 Prod.mk) Prod.mk) (λ(u:Int×Int×Int)(x:aJ)=>(⟨x.op,u.1,u.2.1,u.2.2,x.n,x.m,x.to⟩:aJ)):=by unfold f131_a;exact fA (p2:=(λ(u:Int×Int)(x:aJ)=>(⟨x.op,x.d,u.1,u.2,x.n,x.m,x.to⟩:aJ))) (put:=(λ(u:Int×Int×Int)(x:aJ)=>(⟨x.op,u.1,u.2.1,u.2.2,x.n,x.m,x.to⟩:aJ))) (·.d) (λ(x:aJ) v=>(⟨x.op,v,x.a,x.b,x.n,x.m,x.to⟩:aJ)) Prod.mk (λ_ _=>rfl) (λ_=>rfl) (λ_=>fA (p2:=(λ(u:Int)(x:aJ)=>(⟨x.op,x.d,x.a,u,x.n,x.m,x.to⟩:aJ))) (put:=(λ(u:Int×Int)(x:aJ)=>(⟨x.op,x.d,u.1,u.2,x.n,x.m,x.to⟩:aJ))) (·.a) (λ(x:aJ) v=>(⟨x.op,x.d,v,x.b,x.n,x.m,x.to⟩:aJ)) Prod.mk (λ_ _=>rfl) (λ_=>rfl) (λ_=>ec (·.b) (λ(x:aJ) v=>(⟨x.op,x.d,x.a,v,x.n,x.m,x.to⟩:aJ)) (λ_ _=>rfl) (λ_=>rfl) λ_ _ _ _=>rfl) λ_ _ _=>rfl) (λ_ _ _=>rfl)
theorem f131_t_el(M k:Nat):Ek M k (λb bad l=>f131_t b bad l (k:Int)) d8 (λ(u:Int)(x:aJ)=>(⟨x.op,x.d,x.a,x.b,x.n,x.m,u⟩:aJ)):=by exact ec (·.to) (λ(x:aJ) v=>(⟨x.op,x.d,x.a,x.b,x.n,x.m,v⟩:aJ)) (λ_ _=>rfl) (λ_=>rfl) (λ_ _ _ _=>rfl)
theorem f131_h_el(M k:Nat):Ek M k (λb bad l=>f131_h b bad l (k:Int)) (dc2 d8 (dc2 d8 d8 Prod.mk) Prod.mk) (λ(u:Int×Int×Int)(x:ak)=>(⟨u.1,u.2.1,u.2.2,x.clean⟩:ak)):=by unfold f131_h;exact fA (p2:=(λ(u:Int×Int)(x:ak)=>(⟨x.from_,u.1,u.2,x.clean⟩:ak))) (put:=(λ(u:Int×Int×Int)(x:ak)=>(⟨u.1,u.2.1,u.2.2,x.clean⟩:ak))) (·.from_) (λ(x:ak) v=>(⟨v,x.to,x.at_,x.clean⟩:ak)) Prod.mk (λ_ _=>rfl) (λ_=>rfl) (λ_=>fA (p2:=(λ(u:Int)(x:ak)=>(⟨x.from_,x.to,u,x.clean⟩:ak))) (put:=(λ(u:Int×Int)(x:ak)=>(⟨x.from_,u.1,u.2,x.clean⟩:ak))) (·.to) (λ(x:ak) v=>(⟨x.from_,v,x.at_,x.clean⟩:ak)) Prod.mk (λ_ _=>rfl) (λ_=>rfl) (λ_=>ec (·.at_) (λ(x:ak) v=>(⟨x.from_,x.to,v,x.clean⟩:ak)) (λ_ _=>rfl) (λ_=>rfl) λ_ _ _ _=>rfl) λ_ _ _=>rfl) (λ_ _ _=>rfl)
theorem f131_l_el(M k:Nat):Ek M k (λb bad l=>f131_l b bad l (k:Int)) (dc2 d8 d8 Prod.mk) (λ(u:Int×Int)(x:Loop)=>(⟨u.1,u.2,x.bound⟩:Loop)):=by exact fA (p2:=(λ(u:Int)(x:Loop)=>(⟨x.head,u,x.bound⟩:Loop))) (put:=(λ(u:Int×Int)(x:Loop)=>(⟨u.1,u.2,x.bound⟩:Loop))) (·.head) (λ(x:Loop) v=>(⟨v,x.back,x.bound⟩:Loop)) Prod.mk (λ_ _=>rfl) (λ_=>rfl) (λ_=>ec (·.back) (λ(x:Loop) v=>(⟨x.head,v,x.bound⟩:Loop)) (λ_ _=>rfl) (λ_=>rfl) λ_ _ _ _=>rfl) (λ_ _ _=>rfl)
theorem f131_x_el(M k:Nat):Ek M k (λb bad l=>f131_x b bad l (k:Int)) (dc2 d8 (dc2 d8 (dc2 d8 d8 Prod.mk) Prod.mk) Prod.mk) (λ(u:Int×Int×Int×Int)(x:be)=>(⟨x.kind,u.1,u.2.1,u.2.2.1,u.2.2.2⟩:be)):=by unfold f131_x;exact fA (p2:=(λ(u:Int×Int×Int)(x:be)=>(⟨x.kind,x.entry,u.1,u.2.1,u.2.2⟩:be))) (put:=(λ(u:Int×Int×Int×Int)(x:be)=>(⟨x.kind,u.1,u.2.1,u.2.2.1,u.2.2.2⟩:be))) (·.entry) (λ(x:be) v=>(⟨x.kind,v,x.guard,x.time,x.at_⟩:be)) Prod.mk (λ_ _=>rfl) (λ_=>rfl) (λ_=>fA (p2:=(λ(u:Int×Int)(x:be)=>(⟨x.kind,x.entry,x.guard,u.1,u.2⟩:be))) (put:=(λ(u:Int×Int×Int)(x:be)=>(⟨x.kind,x.entry,u.1,u.2.1,u.2.2⟩:be))) (·.guard) (λ(x:be) v=>(⟨x.kind,x.entry,v,x.time,x.at_⟩:be)) Prod.mk (λ_ _=>rfl) (λ_=>rfl) (λ_=>fA (p2:=(λ(u:Int)(x:be)=>(⟨x.kind,x.entry,x.guard,x.time,u⟩:be))) (put:=(λ(u:Int×Int)(x:be)=>(⟨x.kind,x.entry,x.guard,u.1,u.2⟩:be))) (·.time) (λ(x:be) v=>(⟨x.kind,x.entry,x.guard,v,x.at_⟩:be)) Prod.mk (λ_ _=>rfl) (λ_=>rfl) (λ_=>ec (·.at_) (λ(x:be) v=>(⟨x.kind,x.entry,x.guard,x.time,v⟩:be)) (λ_ _=>rfl) (λ_=>rfl) λ_ _ _ _=>rfl) λ_ _ _=>rfl) λ_ _ _=>rfl) (λ_ _ _=>rfl)
theorem f131_s_el(M k:Nat):Ek M k (λb bad l=>f131_s b bad l (k:Int)) (dc2 d8 d8 Prod.mk) (λ(u:Int×Int)(x:bq)=>(⟨u.1,u.2,x.v⟩:bq)):=by exact fA (p2:=(λ(u:Int)(x:bq)=>(⟨x.o,u,x.v⟩:bq))) (put:=(λ(u:Int×Int)(x:bq)=>(⟨u.1,u.2,x.v⟩:bq))) (·.o) (λ(x:bq) v=>(⟨v,x.slot,x.v⟩:bq)) Prod.mk (λ_ _=>rfl) (λ_=>rfl) (λ_=>ec (·.slot) (λ(x:bq) v=>(⟨x.o,v,x.v⟩:bq)) (λ_ _=>rfl) (λ_=>rfl) λ_ _ _ _=>rfl) (λ_ _ _=>rfl)
theorem f131_c_el(M k:Nat):Ek M k (λb bad l=>f131_c b bad l (k:Int)) d8 (λ(u:Int)(x:bf)=>(⟨u,x.kind⟩:bf)):=by exact ec (·.at_) (λ(x:bf) v=>(⟨v,x.kind⟩:bf)) (λ_ _=>rfl) (λ_=>rfl) (λ_ _ _ _=>rfl)
theorem f131_o_el(M k:Nat):Ek M k (λb bad l=>f131_o b bad l (k:Int)) d8 (λ(u:Int)(x:Obj)=>(⟨u,x.lo,x.hi,x.ptr,x.set_⟩:Obj)):=by exact ec (·.size) (λ(x:Obj) v=>(⟨v,x.lo,x.hi,x.ptr,x.set_⟩:Obj)) (λ_ _=>rfl) (λ_=>rfl) (λ_ _ _ _=>rfl)
theorem f131_q_el(M k:Nat):Ek M k (λb bad l=>f131_q b bad l (k:Int)) (dc2 d8 d8 Prod.mk) (λ(u:Int×Int)(x:az)=>(⟨x.alts,u.1,u.2⟩:az)):=by exact fA (p2:=(λ(u:Int)(x:az)=>(⟨x.alts,x.obj,u⟩:az))) (put:=(λ(u:Int×Int)(x:az)=>(⟨x.alts,u.1,u.2⟩:az))) (·.obj) (λ(x:az) v=>(⟨x.alts,v,x.else_⟩:az)) Prod.mk (λ_ _=>rfl) (λ_=>rfl) (λ_=>ec (·.else_) (λ(x:az) v=>(⟨x.alts,x.obj,v⟩:az)) (λ_ _=>rfl) (λ_=>rfl) λ_ _ _ _=>rfl) (λ_ _ _=>rfl)
theorem f131_k_el(M k:Nat):Ek M k (λb bad l=>f131_k b bad l (k:Int)) (dc2 d8 d8 Prod.mk) (λ(u:Int×Int)(x:aK)=>(⟨u.1,u.2,x.entries,x.deadline⟩:aK)):=by exact fA (p2:=(λ(u:Int)(x:aK)=>(⟨x.prio,u,x.entries,x.deadline⟩:aK))) (put:=(λ(u:Int×Int)(x:aK)=>(⟨u.1,u.2,x.entries,x.deadline⟩:aK))) (·.prio) (λ(x:aK) v=>(⟨v,x.at_,x.entries,x.deadline⟩:aK)) Prod.mk (λ_ _=>rfl) (λ_=>rfl) (λ_=>ec (·.at_) (λ(x:aK) v=>(⟨x.prio,v,x.entries,x.deadline⟩:aK)) (λ_ _=>rfl) (λ_=>rfl) λ_ _ _ _=>rfl) (λ_ _ _=>rfl)
theorem f131_e_el(M k:Nat):Ek M k (λb bad l=>f131_e b bad l (k:Int)) (dc2 d8 (dc2 d8 d8 Prod.mk) Prod.mk) (λ(u:Int×Int×Int)(x:ae)=>(⟨x.kind,x.op,x.n,u.1,u.2.1,u.2.2,x.lo,x.hi,x.l⟩:ae)):=by unfold f131_e;exact fA (p2:=(λ(u:Int×Int)(x:ae)=>(⟨x.kind,x.op,x.n,x.o,u.1,u.2,x.lo,x.hi,x.l⟩:ae))) (put:=(λ(u:Int×Int×Int)(x:ae)=>(⟨x.kind,x.op,x.n,u.1,u.2.1,u.2.2,x.lo,x.hi,x.l⟩:ae))) (·.o) (λ(x:ae) v=>(⟨x.kind,x.op,x.n,v,x.off,x.len,x.lo,x.hi,x.l⟩:ae)) Prod.mk (λ_ _=>rfl) (λx=>by cases x;rfl) (λ_=>fA (p2:=(λ(u:Int)(x:ae)=>(⟨x.kind,x.op,x.n,x.o,x.off,u,x.lo,x.hi,x.l⟩:ae))) (put:=(λ(u:Int×Int)(x:ae)=>(⟨x.kind,x.op,x.n,x.o,u.1,u.2,x.lo,x.hi,x.l⟩:ae))) (·.off) (λ(x:ae) v=>(⟨x.kind,x.op,x.n,x.o,v,x.len,x.lo,x.hi,x.l⟩:ae)) Prod.mk (λ_ _=>rfl) (λx=>by cases x;rfl) (λ_=>ec (·.len) (λ(x:ae) v=>(⟨x.kind,x.op,x.n,x.o,x.off,v,x.lo,x.hi,x.l⟩:ae)) (λ_ _=>rfl) (λx=>by cases x;rfl) λ_ _ _ _=>rfl) λ_ _ _=>rfl) (λ_ _ _=>rfl)
theorem f131_p_el(M k:Nat):Ek M k (λb bad l=>f131_p b bad l (k:Int)) d8 (λ(u:Int)(x:aT)=>(⟨u,x.barriers⟩:aT)):=by exact ec (·.ceiling) (λ(x:aT) v=>(⟨v,x.barriers⟩:aT)) (λ_ _=>rfl) (λ_=>rfl) (λ_ _ _ _=>rfl)
theorem f164_o_el(M k:Nat):Ek M k (λb bad l=>f164_o b bad l (k:Int)) cN.dec (λv (x:aJ)=>(⟨v,x.d,x.a,x.b,x.n,x.m,x.to⟩:aJ)):=by unfold f164_o;exact lu (·.op) (λ(x:aJ) v=>(⟨v,x.d,x.a,x.b,x.n,x.m,x.to⟩:aJ)) (λ_ _=>rfl) (λ_ _ _ _=>rfl)
theorem f191_x_el(M k:Nat):Ek M k (λb bad l=>f191_x b bad l (k:Int)) cN.dec (λv (x:be)=>(⟨v,x.entry,x.guard,x.time,x.at_⟩:be)):=by unfold f191_x;exact lu (·.kind) (λ(x:be) v=>(⟨v,x.entry,x.guard,x.time,x.at_⟩:be)) (λ_ _=>rfl) (λ_ _ _ _=>rfl)
theorem f174_c_el(M k:Nat):Ek M k (λb bad l=>f174_c b bad l (k:Int)) cN.dec (λv (x:bf)=>(⟨x.at_,v⟩:bf)):=by unfold f174_c;exact lu (·.kind) (λ(x:bf) v=>(⟨x.at_,v⟩:bf)) (λ_ _=>rfl) (λ_ _ _ _=>rfl)
theorem f192_e_el(M k:Nat):Ek M k (λb bad l=>f192_e b bad l (k:Int)) cN.dec (λv (x:ae)=>(⟨v,x.op,x.n,x.o,x.off,x.len,x.lo,x.hi,x.l⟩:ae)):=by unfold f192_e;exact lu (·.kind) (λ(x:ae) v=>(⟨v,x.op,x.n,x.o,x.off,x.len,x.lo,x.hi,x.l⟩:ae)) (λ_ _=>rfl) (λ_ _ _ _=>rfl)
theorem f193_e_el(M k:Nat):Ek M k (λb bad l=>f193_e b bad l (k:Int)) cN.dec (λv (x:ae)=>(⟨x.kind,v,x.n,x.o,x.off,x.len,x.lo,x.hi,x.l⟩:ae)):=by unfold f193_e;exact lu (·.op) (λ(x:ae) v=>(⟨x.kind,v,x.n,x.o,x.off,x.len,x.lo,x.hi,x.l⟩:ae)) (λ_ _=>rfl) (λ_ _ _ _=>rfl)
def glp{β R:Type}(F:List Int->Bool->List β->Int->Option (List Int×Bool×List β))(N:Int)(fin:List β->List Int->Bool->Option R):Nat->Int->List β->List Int->Bool->Option R
 |0,_,_,_,_=>none
 |n+1,t,lw,b,bad=>bif decide (t<N) then(bif bad then fin lw b bad else Option.bind (idx lw t) λ_=>Option.bind (F b bad lw t) λr=>glp F N fin n (i64.wrap (t+1)) r.2.2 r.1 r.2.1) else fin lw b bad
section
variable{β R:Type}{F:List Int->Bool->List β->Int->Option (List Int×Bool×List β)}{dec:Bs->Option (β×Bs)}{fin:List β->List Int->Bool->Option R}{z0:β}
theorem mY(N:Int)(n:Nat)(t:Int)(lw:List β)(b:Bs):glp F N fin (n+1) t lw b true=fin lw b true:=by rw[glp];cases hc:decide (t<N)<;>rfl
structure Lll(n:Nat)(b:Bs)(lw:List β)(t:Nat)(dec:Bs->Option (β×Bs))(b':Bs)(bad':Bool)(lw':List β):Prop where
 y:Byt b'
 l:b'.length<=b.length
 s:∀ys r,cz dec n b=some (ys,r)->b'=r/\bad'=false/\lw'=lw.take t++ys
 n:cz dec n b=none->bad'=true
theorem tR{M:Nat}(hF:∀j:Nat,Ek M j (λb bad l=>F b bad l (j:Int)) dec λy _=>y):∀(n m t:Nat)(lw:List β)(b:Bs),m<n->lw.length=t+m->Byt b->b.length<=M->lw.length<9223372036854775807->
  ∃b' bad' lw',glp F (lw.length:Int) fin n (t:Int) lw b false=fin lw' b' bad'/\Lll m b lw t dec b' bad' lw'
 |0,m,t,lw,b,h,_,_,_,_=>oM
 |n+1,0,t,lw,b,h,hl,hb,hM,_=>by
  refine⟨b,false,lw,?_,hb,Nat.le_refl _,λys r e=>?_,λe=>by cases e⟩;grind [glp];grind [cz]
 |n+1,m+1,t,lw,b,h,hl,hb,hM,hx=>by
  obtain⟨b1,bad1,x1,e1,g1⟩:=hF t b false lw oM hb hM;replace e1:F b false lw (t:Int)=some (b1,bad1,lw.set t x1):=e1;have hst:glp F (lw.length:Int) fin (n+1) (t:Int) lw b false=glp F (lw.length:Int) fin n ((t+1:Nat):Int) (lw.set t x1) b1 bad1:=by grind [glp,dh,ep]
  rw[hst];have hll:(lw.set t x1).length=lw.length:=List.length_set;cases hd:dec b with
  |none=>obtain rfl:=g1.n rfl hd;obtain⟨n,rfl⟩:∃n',n=n'+1:=⟨n - 1,oM⟩;refine⟨b1,true,_,mY _ _ _ _ _,g1.y,g1.l,λys r e=>?_,λ_=>rfl⟩;grind [cz]
  |some u=>
   obtain⟨rfl,rfl,rfl⟩:=g1.s rfl u.1 u.2 hd;obtain⟨b',bad',lw',e2,g2⟩:=tR hF n m (t+1) (lw.set t u.1) u.2 oM oM g1.y (by have:=g1.l;omega) oM;rw[hll] at e2;refine⟨b',bad',lw',e2,g2.y,Nat.le_trans g2.l g1.l,λys r e=>?_,λe=>?_⟩;rw[cz,hd,bnS] at e;obtain⟨⟨w,s⟩,q,e⟩:=Option.bind_eq_some_iff.1 e;obtain⟨rfl,rfl⟩:=e;obtain⟨h1,h2,h3⟩:=g2.s w s q;grind [List.take_succ_eq_append_getElem,List.take_set_of_le];rw[cz,hd,bnS] at e;refine g2.n ?_;cases q:cz dec m u.2 with
   |none=>rfl
   |some v=>grind
theorem ma{M sz:Nat}(hs:sz<=1000)(hMM:M<=281474976710656)(hF:∀M' (j:Nat),M'+8<=M->Ek M' j (λb bad l=>F b bad l (j:Int)) dec λy _=>y)(v0:Nat)(fb:List Int->Option R){b:Bs}(hb:Byt b)(hM:b.length<=M)(hsz:sz*(b.length / 8)<=281474976710656)(bad:Bool):
  ∃b' bad' lw',(((Option.bind (f53 b bad (v0:Int)) λr=>bif (decide (r.2.2<0))||(decide (r.2.2>(i64.wrap (Int.tdiv (List.length r.1:Int) 8)))) then fb r.1 else aS (dP sz r.2.2) (glp F (List.length (List.replicate (Int.toNat r.2.2) z0):Int) fin (Int.toNat ((List.length (List.replicate (Int.toNat r.2.2) z0):Int) - 0)+1) 0 (List.replicate (Int.toNat r.2.2) z0) r.1 r.2.1))=fb b'/\bad'=true)\/((Option.bind (f53 b bad (v0:Int)) λr=>bif (decide (r.2.2<0))||(decide (r.2.2>(i64.wrap (Int.tdiv (List.length r.1:Int) 8)))) then fb r.1 else aS (dP sz r.2.2) (glp F (List.length (List.replicate (Int.toNat r.2.2) z0):Int) fin (Int.toNat ((List.length (List.replicate (Int.toNat r.2.2) z0):Int) - 0)+1) 0 (List.replicate (Int.toNat r.2.2) z0) r.1 r.2.1))=fin lw' b' bad'))/\ji b bad [] (eu d8 (cz dec)) (λy _=>y) b' bad' lw':=by
 rw[f53_eq hb,bnS];have hdiv:∀n:Nat,n<=281474976710656->i64.wrap (Int.tdiv (n:Int) 8)=((n / 8:Nat):Int):=λn hn=>by
  have:Int.tdiv (n:Int) 8=((n / 8:Nat):Int):=by rw[Int.tdiv_eq_ediv_of_nonneg oM];omega
  rw[this,ep oM oM]
 have hmk:∀(c:Int)(n:Nat),0<=c->c<=((n / 8:Nat):Int)->n<=b.length->dP sz c=true:=λc n h1 h2 h3=>by
  have hx:n / 8<=b.length / 8:=Nat.div_le_div_right h3;obtain⟨c,rfl⟩:=Int.eq_ofNat_of_zero_le h1;have h4:c<=b.length / 8:=oM;have h5:sz*c<=sz*(b.length / 8):=Nat.mul_le_mul_left _ h4;have h6:(sz:Int)*(c:Int)<=281474976710656:=by have:((sz*c:Nat):Int)<=281474976710656:=oM;rwa [Int.natCast_mul] at this
  unfold dP maxLen;rw[dcT h1,dcT h6,dcT oM];rfl
 cases hd:d8 b with
 |none=>
  dsimp only;rw[hdiv _ oM];by_cases hc:((v0:Int)<0\/(v0:Int)>((b.length / 8:Nat):Int));have:(decide ((v0:Int)<0)||decide ((v0:Int)>((b.length / 8:Nat):Int)))=true:=by simp only[Bool.or_eq_true,decide_eq_true_eq];exact hc
  rw[this,cdT];refine⟨b,true,[], .inl ⟨rfl,rfl⟩,hb,Nat.le_refl _,λ_=>rfl,λ_ y r h=>?_,λ_ _=>rfl⟩;rw[eu,hd] at h;cases h;have hf:(decide ((v0:Int)<0)||decide ((v0:Int)>((b.length / 8:Nat):Int)))=false:=by simp only[Bool.or_eq_false_iff,decide_eq_false_iff_not];exact⟨λh=>hc (.inl h),λh=>hc (.inr h)⟩
  rw[hf,cdF,fu _ (hmk _ _ oM oM (Nat.le_refl _)),mY];refine⟨b,true,_, .inr rfl,hb,Nat.le_refl _,λ_=>rfl,λ_ y r h=>?_,λ_ _=>rfl⟩;rw[eu,hd] at h;cases h
 |some u=>
  obtain⟨hy,hl,hi⟩:=gz hb hd;have hl8:u.2.length+8=b.length:=by have:=(pI hb hd).1;have h2:=congrArg List.length this;rw[List.length_append,bV] at h2;omega
  dsimp only;rw[hdiv _ oM];by_cases hc:(u.1<0\/u.1>((u.2.length / 8:Nat):Int));have:(decide (u.1<0)||decide (u.1>((u.2.length / 8:Nat):Int)))=true:=by simp only[Bool.or_eq_true,decide_eq_true_eq];exact hc
  rw[this,cdT];refine⟨u.2,true,[], .inl ⟨rfl,rfl⟩,hy,hl,λ_=>rfl,λ_ y r h=>?_,λ_ _=>rfl⟩;rw[eu,hd,bnS,if_pos oM] at h;cases h;have hf:(decide (u.1<0)||decide (u.1>((u.2.length / 8:Nat):Int)))=false:=by simp only[Bool.or_eq_false_iff,decide_eq_false_iff_not];exact⟨λh=>hc (.inl h),λh=>hc (.inr h)⟩
  rw[hf,cdF,fu _ (hmk _ _ oM oM hl)];have hcnt:eu d8 (cz dec) b=cz dec u.1.toNat u.2:=by rw[eu,hd,bnS,if_neg oM]
  cases bad with
  |true=>rw[mY];exact⟨u.2,true,_, .inr rfl,hy,hl,λ_=>rfl,λh=>(by cases h),λh=>(by cases h)⟩
  |false=>obtain⟨M',hM'⟩:∃M',M=M'+8:=⟨M - 8,oM⟩;have hlen:(List.replicate u.1.toNat z0).length=u.1.toNat:=List.length_replicate;obtain⟨b',bad',lw',e,g⟩:=tR (fin:=fin) (λj=>hF M' j oM) (Int.toNat (((List.replicate u.1.toNat z0).length:Int) - 0)+1) u.1.toNat 0 (List.replicate u.1.toNat z0) u.2 oM oM hy oM oM;refine⟨b',bad',lw', .inr e,g.y,Nat.le_trans g.l hl,λh=>(by cases h),λ_ y r h=>?_,λ_ h=>?_⟩;rw[hcnt] at h;obtain⟨h1,h2,h3⟩:=g.s y r h;exact⟨h1,h2,by rw[h3,List.take_zero,List.nil_append]⟩;rw[hcnt] at h;exact g.n h
end
section
variable{α β γ δ:Type}{F:List Int->Bool->List β->Int->Option (List Int×Bool×List β)}{dec:Bs->Option (β×Bs)}{M k:Nat}{K:List α->List Int->Bool->Option (List Int×Bool×List α)}
theorem tA{sz:Nat}{z0:β}(get:α->List β)(set:α->List β->α)(hs:sz<=1000)(hMM:M<=281474976710656)(hsz:sz*(M / 8)<=281474976710656)(hF:∀M' (j:Nat),M'+8<=M->Ek M' j (λb bad l=>F b bad l (j:Int)) dec λy _=>y){b:Bs}(hb:Byt b)(hM:b.length<=M)(bad:Bool){l:List α}(hk:k<l.length):
  ∃b' bad' x',(aq K λkk=>Option.bind (idx l (k:Int)) λx=>Option.bind (f53 b bad (List.length (get x):Int)) λr=>bif (decide (r.2.2<0))||(decide (r.2.2>(i64.wrap (Int.tdiv (List.length r.1:Int) 8)))) then kk l r.1 true else aS (dP sz r.2.2) (Option.bind (idx l (k:Int)) λx'=>glp F (List.length (List.replicate (Int.toNat r.2.2) z0):Int) (λlw b bad=>kk (List.set l (Int.toNat (k:Int)) (set x' lw)) b bad) (Int.toNat ((List.length (List.replicate (Int.toNat r.2.2) z0):Int) - 0)+1) 0 (List.replicate (Int.toNat r.2.2) z0) r.1 r.2.1))=K (l.set k x') b' bad'/\ji b bad l[k] (eu d8 (cz dec)) (λy x=>set x y) b' bad' x':=by
 rw[dn,dh hk,bnS];have hszb:sz*(b.length / 8)<=281474976710656:=Nat.le_trans (Nat.mul_le_mul_left _ (Nat.div_le_div_right hM)) hsz;obtain⟨b',bad',lw',h,g⟩:=ma (fin:=λlw b bad=>K (List.set l (Int.toNat (k:Int)) (set l[k] lw)) b bad) (z0:=z0) hs hMM hF (get l[k]).length (λb=>K l b true) hb hM hszb bad;rcases h with⟨h,hbd⟩|h
 subst hbd;refine⟨b',true,l[k],h.trans sM,g.y,g.l,g.t,λe y r hd=>?_,g.n⟩;obtain⟨_,h2,_⟩:=g.s e y r hd;cases h2;refine⟨b',bad',set l[k] lw',h,g.y,g.l,g.t,λe y r hd=>?_,g.n⟩;obtain⟨h1,h2,h3⟩:=g.s e y r hd;grind
theorem j0{sz:Nat}{z0:β}(get:α->List β)(set:α->List β->α){d2:Bs->Option (γ×Bs)}{p2:γ->α->α}(mk:List β->γ->δ){put:δ->α->α}(hs:sz<=1000)(hMM:M<=281474976710656)(hsz:sz*(M / 8)<=281474976710656)(hF:∀M' (j:Nat),M'+8<=M->Ek M' j (λb bad l=>F b bad l (j:Int)) dec λy _=>y)
  (h2:Ek M k (λb bad l=>K l b bad) d2 p2)(hp:∀u v x,p2 v (set x u)=put (mk u v) x):
  Ek M k (λb bad l=>aq K λkk=>Option.bind (idx l (k:Int)) λx=>Option.bind (f53 b bad (List.length (get x):Int)) λr=>bif (decide (r.2.2<0))||(decide (r.2.2>(i64.wrap (Int.tdiv (List.length r.1:Int) 8)))) then kk l r.1 true else aS (dP sz r.2.2) (Option.bind (idx l (k:Int)) λx'=>glp F (List.length (List.replicate (Int.toNat r.2.2) z0):Int) (λlw b bad=>kk (List.set l (Int.toNat (k:Int)) (set x' lw)) b bad) (Int.toNat ((List.length (List.replicate (Int.toNat r.2.2) z0):Int) - 0)+1) 0 (List.replicate (Int.toNat r.2.2) z0) r.1 r.2.1)) (dc2 (eu d8 (cz dec)) d2 mk) put:=λb bad l hk hb hM=>by
 obtain⟨b1,bad1,x1,e1,g1⟩:=tA (K:=K) (F:=F) (z0:=z0) get set hs hMM hsz hF hb hM bad hk;have hk2:k<(l.set k x1).length:=by grind
 obtain⟨b2,bad2,x2,e2,g2⟩:=h2 b1 bad1 (l.set k x1) hk2 g1.y (by have:=g1.l;omega);have hx:(l.set k x1)[k]=x1:=sM;rw[hx] at g2;exact⟨b2,bad2,x2,e1.trans (e2.trans (by rw[List.set_set])),ot g1 g2 hp⟩
end
theorem Ek.ret{α:Type}(M k:Nat):Ek M k (λb bad (l:List α)=>some (b,bad,l)) (λb=>some ((),b)) (λ(_:Unit) x=>x):=λb bad l hk hb hM=>by
 refine⟨b,bad,l[k],sM,hb,Nat.le_refl _,id,λh y r e=>?_,λ_ e=>by cases e⟩;simp only[ay,Prod.mk.injEq] at e;exact⟨e.2,h,rfl⟩
theorem ko(b:Bs):nl.dec b=(d8 b).bind λu=>if u.1<0\/1<u.1 then none else some (decide (u.1=1),u.2):=rfl
section
variable{α γ δ:Type}{M k:Nat}{K:List α->List Int->Bool->Int->Option (List Int×Bool×List α)}
theorem wV(getb:α->Bool)(setb:α->Bool->α){d2:Bs->Option (γ×Bs)}{p2:γ->α->α}(mk:Bool->γ->δ){put:δ->α->α}(h2:∀v,Ek M k (λb bad l=>K l b bad v) d2 p2)(hp:∀u v x,p2 v (setb x u)=put (mk u v) x):
  Ek M k (λb bad l=>aq K λkk=>aq (λv=>Option.bind (f53 b bad v) λr=>Option.bind (idx l (k:Int)) λx=>kk (List.set l (Int.toNat (k:Int)) (setb x (decide (r.2.2=1)))) r.1 ((r.2.1||decide (r.2.2<0))||decide (r.2.2>1)) r.2.2) λk33=>Option.bind (idx l (k:Int)) λx=>bif getb x then k33 1 else k33 0) (dc2 nl.dec d2 mk) put:=λb bad l hk hb hM=>by
 have key:∀v:Int,∃b' bad' x' w,(Option.bind (f53 b bad v) λr=>Option.bind (idx l (k:Int)) λx=>K (List.set l (Int.toNat (k:Int)) (setb x (decide (r.2.2=1)))) r.1 ((r.2.1||decide (r.2.2<0))||decide (r.2.2>1)) r.2.2)=K (l.set k x') b' bad' w/\ji b bad l[k] nl.dec (λu x=>setb x u) b' bad' x':=λv=>by
  rw[f53_eq hb,bnS,dh hk,bnS,Int.toNat_natCast];cases hd:d8 b with
  |none=>refine⟨_,_,_,_,rfl,hb,Nat.le_refl _,λ_=>rfl,λ_ y r h=>?_,λ_ _=>rfl⟩;rw[ko,hd] at h;cases h
  |some u=>
   obtain⟨g1,g2,g3⟩:=gz hb hd;by_cases hc:u.1<0\/1<u.1;have:((bad||decide (u.1<0))||decide (u.1>1))=true:=by
    simp only[Bool.or_eq_true,decide_eq_true_eq];rcases hc with h|h
    exact .inl (.inr h);exact .inr h
   refine⟨_,_,_,_,rfl,g1,g2,λ_=>this,λ_ y r h=>?_,λ_ _=>this⟩;rw[ko,hd,bnS,if_pos hc] at h;cases h;have:((bad||decide (u.1<0))||decide (u.1>1))=bad:=by rw[dcF (λh=>hc (.inl h)),dcF (λh=>hc (.inr h)),Bool.or_false,Bool.or_false]
   refine⟨_,_,_,_,rfl,g1,g2,λh=>this.trans h,λhb y r h=>?_,λ_ h=>?_⟩;rw[ko,hd,bnS,if_neg hc,ay,Prod.mk.injEq] at h;obtain⟨rfl,rfl⟩:=h;exact⟨rfl,this.trans hb,rfl⟩;rw[ko,hd,bnS,if_neg hc] at h;cases h
 have hx:∃v,(aq K λkk=>aq (λv=>Option.bind (f53 b bad v) λr=>Option.bind (idx l (k:Int)) λx=>kk (List.set l (Int.toNat (k:Int)) (setb x (decide (r.2.2=1)))) r.1 ((r.2.1||decide (r.2.2<0))||decide (r.2.2>1)) r.2.2) λk33=>Option.bind (idx l (k:Int)) λx=>bif getb x then k33 1 else k33 0)=(Option.bind (f53 b bad v) λr=>Option.bind (idx l (k:Int)) λx=>K (List.set l (Int.toNat (k:Int)) (setb x (decide (r.2.2=1)))) r.1 ((r.2.1||decide (r.2.2<0))||decide (r.2.2>1)) r.2.2):=by rw[dn,dn];suffices h:∀G:Int->Option (List Int×Bool×List α),∃v,(Option.bind (idx l (k:Int)) λx=>bif getb x then G 1 else G 0)=G v from h (λv=>Option.bind (f53 b bad v) λr=>Option.bind (idx l (k:Int)) λx=>K (List.set l (Int.toNat (k:Int)) (setb x (decide (r.2.2=1)))) r.1 ((r.2.1||decide (r.2.2<0))||decide (r.2.2>1)) r.2.2);intro G;rw[dh hk,bnS];cases getb l[k];exact⟨0,rfl⟩;exact⟨1,rfl⟩
 obtain⟨v,hv⟩:=hx;obtain⟨b1,bad1,x1,w,e1,g1⟩:=key v;have hk2:k<(l.set k x1).length:=by rw[List.length_set];exact hk
 obtain⟨b2,bad2,x2,e2,g2⟩:=h2 w b1 bad1 (l.set k x1) hk2 g1.y (by have:=g1.l;omega);have hx:(l.set k x1)[k]=x1:=sM;rw[hx] at g2;exact⟨b2,bad2,x2,hv.trans (e1.trans (e2.trans (by rw[List.set_set]))),ot g1 g2 hp⟩
end
theorem f169_el(M k:Nat):Ek M k (λb bad l=>f169 b bad l (k:Int)) d8 (λy _=>y):=by unfold f169;refine Ek.eq (Ek.call (p2:=λ(_:Unit) x=>x) (put:=λy _=>y) (λu _=>u) (F:=λb bad l=>f131_n b bad l (k:Int)) (d1:=d8) (p1:=λv _=>v) ?_ (Ek.ret M k) λ_ _ _=>rfl) (λb=>by simp only[dc2,bnS];cases d8 b<;>rfl);unfold f131_n;exact ec (λx=>x) (λ_ v=>v) (λ_ _=>rfl) (λ_=>rfl) (λ_ _ _ _=>rfl)
theorem f118_el(M k:Nat)(hM:M<=900000000):Ek M k (λb bad l=>f118 b bad l (k:Int)) ik.dec (λy _=>y):=by unfold f118;exact Ek.eq (Ek.call (p2:=(λ(u:(Int×Int×Int)×(Int)×(Int)×(Int)×Unit)(x:aJ)=>(⟨x.op,u.1.1,u.1.2.1,u.1.2.2,u.2.1,u.2.2.1,u.2.2.2.1⟩:aJ))) (put:=(λ(y:aJ)(_:aJ)=>y)) (λ(o:Int)(u:(Int×Int×Int)×(Int)×(Int)×(Int)×Unit)=>(⟨o,u.1.1,u.1.2.1,u.1.2.2,u.2.1,u.2.2.1,u.2.2.2.1⟩:aJ)) (F:=λb bad l=>f164_o b bad l (k:Int)) (f164_o_el M k) (Ek.call (p2:=(λ(u:(Int)×(Int)×(Int)×Unit)(x:aJ)=>(⟨x.op,x.d,x.a,x.b,u.1,u.2.1,u.2.2.1⟩:aJ))) (put:=(λ(u:(Int×Int×Int)×(Int)×(Int)×(Int)×Unit)(x:aJ)=>(⟨x.op,u.1.1,u.1.2.1,u.1.2.2,u.2.1,u.2.2.1,u.2.2.2.1⟩:aJ))) Prod.mk (F:=λb bad l=>f131_a b bad l (k:Int)) (f131_a_el M k) (Ek.inl (p2:=(λ(u:(Int)×(Int)×Unit)(x:aJ)=>(⟨x.op,x.d,x.a,x.b,x.n,u.1,u.2.1⟩:aJ))) (put:=(λ(u:(Int)×(Int)×(Int)×Unit)(x:aJ)=>(⟨x.op,x.d,x.a,x.b,u.1,u.2.1,u.2.2.1⟩:aJ))) (λ(x:aJ) v=>(⟨x.op,x.d,x.a,x.b,v,x.m,x.to⟩:aJ)) Prod.mk (Ek.inl (p2:=(λ(u:(Int)×Unit)(x:aJ)=>(⟨x.op,x.d,x.a,x.b,x.n,x.m,u.1⟩:aJ))) (put:=(λ(u:(Int)×(Int)×Unit)(x:aJ)=>(⟨x.op,x.d,x.a,x.b,x.n,u.1,u.2.1⟩:aJ))) (λ(x:aJ) v=>(⟨x.op,x.d,x.a,x.b,x.n,v,x.to⟩:aJ)) Prod.mk (Ek.call (p2:=(λ(_:Unit)(x:aJ)=>x)) (put:=(λ(u:(Int)×Unit)(x:aJ)=>(⟨x.op,x.d,x.a,x.b,x.n,x.m,u.1⟩:aJ))) Prod.mk (F:=λb bad l=>f131_t b bad l (k:Int)) (f131_t_el M k) (Ek.ret M k) λ_ _ _=>rfl) λ_ _ _=>rfl) λ_ _ _=>rfl) λ_ _ _=>rfl) λ_ _ _=>rfl) (λb=>by simp only[dc2,ik,pr,liC,Cod.two,Cod.list,aY,Option.bind_assoc,bnS])
theorem f120_el(M k:Nat)(hM:M<=900000000):Ek M k (λb bad l=>f120 b bad l (k:Int)) iT.dec (λy _=>y):=by unfold f120;exact Ek.eq (Ek.call (p2:=(λ(u:(Bool)×Unit)(x:ak)=>(⟨x.from_,x.to,x.at_,u.1⟩:ak))) (put:=(λ(y:ak)(_:ak)=>y)) (λ(o:Int×Int×Int)(u:(Bool)×Unit)=>(⟨o.1,o.2.1,o.2.2,u.1⟩:ak)) (F:=λb bad l=>f131_h b bad l (k:Int)) (f131_h_el M k) (wV (p2:=(λ(_:Unit)(x:ak)=>x)) (put:=(λ(u:(Bool)×Unit)(x:ak)=>(⟨x.from_,x.to,x.at_,u.1⟩:ak))) (λ(x:ak)=>x.clean) (λ(x:ak) v=>(⟨x.from_,x.to,x.at_,v⟩:ak)) Prod.mk (λ_=>(Ek.ret M k)) λ_ _ _=>rfl) λ_ _ _=>rfl) (λb=>by simp only[dc2,iT,pr,liC,Cod.two,Cod.list,aY,Option.bind_assoc,bnS])
theorem f122_el(M k:Nat)(hM:M<=900000000):Ek M k (λb bad l=>f122 b bad l (k:Int)) iN.dec (λy _=>y):=by unfold f122;exact Ek.eq (Ek.call (p2:=(λ(u:(Int)×Unit)(x:Loop)=>(⟨x.head,x.back,u.1⟩:Loop))) (put:=(λ(y:Loop)(_:Loop)=>y)) (λ(o:Int×Int)(u:(Int)×Unit)=>(⟨o.1,o.2,u.1⟩:Loop)) (F:=λb bad l=>f131_l b bad l (k:Int)) (f131_l_el M k) (Ek.inl (p2:=(λ(_:Unit)(x:Loop)=>x)) (put:=(λ(u:(Int)×Unit)(x:Loop)=>(⟨x.head,x.back,u.1⟩:Loop))) (λ(x:Loop) v=>(⟨x.head,x.back,v⟩:Loop)) Prod.mk (Ek.ret M k) λ_ _ _=>rfl) λ_ _ _=>rfl) (λb=>by simp only[dc2,iN,pr,liC,Cod.two,Cod.list,aY,Option.bind_assoc,bnS])
theorem f167_el(M k:Nat)(hM:M<=900000000):Ek M k (λb bad l=>f167 b bad l (k:Int)) ja.dec (λy _=>y):=by unfold f167;exact Ek.eq (Ek.call (p2:=(λ(u:(Int×Int×Int×Int)×Unit)(x:be)=>(⟨x.kind,u.1.1,u.1.2.1,u.1.2.2.1,u.1.2.2.2⟩:be))) (put:=(λ(y:be)(_:be)=>y)) (λ(o:Int)(u:(Int×Int×Int×Int)×Unit)=>(⟨o,u.1.1,u.1.2.1,u.1.2.2.1,u.1.2.2.2⟩:be)) (F:=λb bad l=>f191_x b bad l (k:Int)) (f191_x_el M k) (Ek.call (p2:=(λ(_:Unit)(x:be)=>x)) (put:=(λ(u:(Int×Int×Int×Int)×Unit)(x:be)=>(⟨x.kind,u.1.1,u.1.2.1,u.1.2.2.1,u.1.2.2.2⟩:be))) Prod.mk (F:=λb bad l=>f131_x b bad l (k:Int)) (f131_x_el M k) (Ek.ret M k) λ_ _ _=>rfl) λ_ _ _=>rfl) (λb=>by simp only[dc2,ja,pr,liC,Cod.two,Cod.list,aY,Option.bind_assoc,bnS])
theorem f130_el(M k:Nat)(hM:M<=900000000):Ek M k (λb bad l=>f130 b bad l (k:Int)) im.dec (λy _=>y):=by unfold f130;exact Ek.eq (Ek.call (p2:=(λ(u:(Int)×Unit)(x:bq)=>(⟨x.o,x.slot,u.1⟩:bq))) (put:=(λ(y:bq)(_:bq)=>y)) (λ(o:Int×Int)(u:(Int)×Unit)=>(⟨o.1,o.2,u.1⟩:bq)) (F:=λb bad l=>f131_s b bad l (k:Int)) (f131_s_el M k) (Ek.inl (p2:=(λ(_:Unit)(x:bq)=>x)) (put:=(λ(u:(Int)×Unit)(x:bq)=>(⟨x.o,x.slot,u.1⟩:bq))) (λ(x:bq) v=>(⟨x.o,x.slot,v⟩:bq)) Prod.mk (Ek.ret M k) λ_ _ _=>rfl) λ_ _ _=>rfl) (λb=>by simp only[dc2,im,pr,liC,Cod.two,Cod.list,aY,Option.bind_assoc,bnS])
theorem f137_el(M k:Nat)(hM:M<=900000000):Ek M k (λb bad l=>f137 b bad l (k:Int)) gQ.dec (λy _=>y):=by unfold f137;exact Ek.eq (Ek.call (p2:=(λ(u:(Int)×Unit)(x:bf)=>(⟨x.at_,u.1⟩:bf))) (put:=(λ(y:bf)(_:bf)=>y)) (λ(o:Int)(u:(Int)×Unit)=>(⟨o,u.1⟩:bf)) (F:=λb bad l=>f131_c b bad l (k:Int)) (f131_c_el M k) (Ek.call (p2:=(λ(_:Unit)(x:bf)=>x)) (put:=(λ(u:(Int)×Unit)(x:bf)=>(⟨x.at_,u.1⟩:bf))) Prod.mk (F:=λb bad l=>f174_c b bad l (k:Int)) (f174_c_el M k) (Ek.ret M k) λ_ _ _=>rfl) λ_ _ _=>rfl) (λb=>by simp only[dc2,gQ,pr,liC,Cod.two,Cod.list,aY,Option.bind_assoc,bnS])
theorem f128_l1_eq(k:Int)(lw52:List Obj)(k72:(List Obj)->(List Int)->Bool->Option ((List Int)×Bool×(List Obj)))(r74:(List Int)×Bool×Int)(x77:Obj):∀(n:Nat)(t:Int)(lw:_)(b:List Int)(bad:Bool),f128_l1 k lw52 k72 r74 x77 n t lw b bad=glp f169 (List.length (List.replicate (Int.toNat r74.2.2) (0:Int)):Int) (λlw83 c00v84 c02v85=>(k72 (List.set lw52 (Int.toNat k) (Obj.mk x77.size x77.lo x77.hi x77.ptr lw83)) c00v84 c02v85)) n t lw b bad
 |0,_,_,_,_=>rfl
 |n+1,t,lw,b,bad=>by simp only[f128_l1,glp,f128_l1_eq]
theorem f128_el(M k:Nat)(hM:M<=900000000):Ek M k (λb bad l=>f128 b bad l (k:Int)) gq.dec (λy _=>y):=by unfold f128;simp only[f128_l1_eq];exact Ek.eq (Ek.call (p2:=(λ(u:(Int)×(Int)×(Bool)×(List Int)×Unit)(x:Obj)=>(⟨x.size,u.1,u.2.1,u.2.2.1,u.2.2.2.1⟩:Obj))) (put:=(λ(y:Obj)(_:Obj)=>y)) (λ(o:Int)(u:(Int)×(Int)×(Bool)×(List Int)×Unit)=>(⟨o,u.1,u.2.1,u.2.2.1,u.2.2.2.1⟩:Obj)) (F:=λb bad l=>f131_o b bad l (k:Int)) (f131_o_el M k) (Ek.inl (p2:=(λ(u:(Int)×(Bool)×(List Int)×Unit)(x:Obj)=>(⟨x.size,x.lo,u.1,u.2.1,u.2.2.1⟩:Obj))) (put:=(λ(u:(Int)×(Int)×(Bool)×(List Int)×Unit)(x:Obj)=>(⟨x.size,u.1,u.2.1,u.2.2.1,u.2.2.2.1⟩:Obj))) (λ(x:Obj) v=>(⟨x.size,v,x.hi,x.ptr,x.set_⟩:Obj)) Prod.mk (Ek.inl (p2:=(λ(u:(Bool)×(List Int)×Unit)(x:Obj)=>(⟨x.size,x.lo,x.hi,u.1,u.2.1⟩:Obj))) (put:=(λ(u:(Int)×(Bool)×(List Int)×Unit)(x:Obj)=>(⟨x.size,x.lo,u.1,u.2.1,u.2.2.1⟩:Obj))) (λ(x:Obj) v=>(⟨x.size,x.lo,v,x.ptr,x.set_⟩:Obj)) Prod.mk (wV (p2:=(λ(u:(List Int)×Unit)(x:Obj)=>(⟨x.size,x.lo,x.hi,x.ptr,u.1⟩:Obj))) (put:=(λ(u:(Bool)×(List Int)×Unit)(x:Obj)=>(⟨x.size,x.lo,x.hi,u.1,u.2.1⟩:Obj))) (λ(x:Obj)=>x.ptr) (λ(x:Obj) v=>(⟨x.size,x.lo,x.hi,v,x.set_⟩:Obj)) Prod.mk (λ_=>(j0 (p2:=(λ(_:Unit)(x:Obj)=>x)) (put:=(λ(u:(List Int)×Unit)(x:Obj)=>(⟨x.size,x.lo,x.hi,x.ptr,u.1⟩:Obj))) (F:=f169) (dec:=d8) (sz:=8) (z0:=0) (λ(x:Obj)=>x.set_) (λ(x:Obj) v=>(⟨x.size,x.lo,x.hi,x.ptr,v⟩:Obj)) Prod.mk dC oM oM (λM' j _=>f169_el M' j) (Ek.ret M k) λ_ _ _=>rfl)) λ_ _ _=>rfl) λ_ _ _=>rfl) λ_ _ _=>rfl) λ_ _ _=>rfl) (λb=>by simp only[dc2,gq,pr,liC,Cod.two,Cod.list,aY,Option.bind_assoc,bnS])
theorem f171_l1_eq(l:List aB)(k:Int)(k26:(List aB)->(List Int)->Bool->Option ((List Int)×Bool×(List aB)))(r28:(List Int)×Bool×Int)(x31:aB):∀(n:Nat)(t:Int)(lw:_)(b:List Int)(bad:Bool),f171_l1 l k k26 r28 x31 n t lw b bad=glp f169 (List.length (List.replicate (Int.toNat r28.2.2) (0:Int)):Int) (λlw37 c00v38 c02v39=>(k26 (List.set l (Int.toNat k) (aB.mk lw37 x31.outs)) c00v38 c02v39)) n t lw b bad
 |0,_,_,_,_=>rfl
 |n+1,t,lw,b,bad=>by simp only[f171_l1,glp,f171_l1_eq]
theorem f171_l2_eq(k:Int)(lw18:List aB)(k56:(List aB)->(List Int)->Bool->Option ((List Int)×Bool×(List aB)))(r58:(List Int)×Bool×Int)(x61:aB):∀(n:Nat)(t:Int)(lw:_)(b:List Int)(bad:Bool),f171_l2 k lw18 k56 r58 x61 n t lw b bad=glp f169 (List.length (List.replicate (Int.toNat r58.2.2) (0:Int)):Int) (λlw67 c00v68 c02v69=>(k56 (List.set lw18 (Int.toNat k) (aB.mk x61.ins lw67)) c00v68 c02v69)) n t lw b bad
 |0,_,_,_,_=>rfl
 |n+1,t,lw,b,bad=>by simp only[f171_l2,glp,f171_l2_eq]
theorem f171_el(M k:Nat)(hM:M<=900000000):Ek M k (λb bad l=>f171 b bad l (k:Int)) jC.dec (λy _=>y):=by unfold f171;simp only[f171_l1_eq,f171_l2_eq];exact Ek.eq (j0 (p2:=(λ(u:(List Int)×Unit)(x:aB)=>(⟨x.ins,u.1⟩:aB))) (put:=(λ(y:aB)(_:aB)=>y)) (F:=f169) (dec:=d8) (sz:=8) (z0:=0) (λ(x:aB)=>x.ins) (λ(x:aB) v=>(⟨v,x.outs⟩:aB)) (λ(o:List Int)(u:(List Int)×Unit)=>(⟨o,u.1⟩:aB)) dC oM oM (λM' j _=>f169_el M' j) (j0 (p2:=(λ(_:Unit)(x:aB)=>x)) (put:=(λ(u:(List Int)×Unit)(x:aB)=>(⟨x.ins,u.1⟩:aB))) (F:=f169) (dec:=d8) (sz:=8) (z0:=0) (λ(x:aB)=>x.outs) (λ(x:aB) v=>(⟨x.ins,v⟩:aB)) Prod.mk dC oM oM (λM' j _=>f169_el M' j) (Ek.ret M k) λ_ _ _=>rfl) λ_ _ _=>rfl) (λb=>by simp only[dc2,jC,pr,liC,Cod.two,Cod.list,aY,Option.bind_assoc,bnS])
theorem f124_l1_eq(l:List az)(k:Int)(k27:(List az)->(List Int)->Bool->Option ((List Int)×Bool×(List az)))(r29:(List Int)×Bool×Int)(x32:az):∀(n:Nat)(t:Int)(lw:_)(b:List Int)(bad:Bool),f124_l1 l k k27 r29 x32 n t lw b bad=glp f167 (List.length (List.replicate (Int.toNat r29.2.2) ((be.mk 0 0 0 0 0):be)):Int) (λlw38 c00v39 c02v40=>(k27 (List.set l (Int.toNat k) (az.mk lw38 x32.obj x32.else_)) c00v39 c02v40)) n t lw b bad
 |0,_,_,_,_=>rfl
 |n+1,t,lw,b,bad=>by simp only[f124_l1,glp,f124_l1_eq]
theorem f124_el(M k:Nat)(hM:M<=900000000):Ek M k (λb bad l=>f124 b bad l (k:Int)) gP.dec (λy _=>y):=by unfold f124;simp only[f124_l1_eq];exact Ek.eq (j0 (p2:=(λ(u:(Int×Int)×Unit)(x:az)=>(⟨x.alts,u.1.1,u.1.2⟩:az))) (put:=(λ(y:az)(_:az)=>y)) (F:=f167) (dec:=ja.dec) (sz:=40) (z0:=(be.mk 0 0 0 0 0)) (λ(x:az)=>x.alts) (λ(x:az) v=>(⟨v,x.obj,x.else_⟩:az)) (λ(o:List be)(u:(Int×Int)×Unit)=>(⟨o,u.1.1,u.1.2⟩:az)) dC oM oM (λM' j h=>f167_el M' j oM) (Ek.call (p2:=(λ(_:Unit)(x:az)=>x)) (put:=(λ(u:(Int×Int)×Unit)(x:az)=>(⟨x.alts,u.1.1,u.1.2⟩:az))) Prod.mk (F:=λb bad l=>f131_q b bad l (k:Int)) (f131_q_el M k) (Ek.ret M k) λ_ _ _=>rfl) λ_ _ _=>rfl) (λb=>by simp only[dc2,gP,pr,liC,Cod.two,Cod.list,aY,Option.bind_assoc,bnS])
theorem f133_l1_eq(k:Int)(r28:(List Int)×Bool×(List aK))(k34:(List aK)->(List Int)->Bool->Option ((List Int)×Bool×(List aK)))(r36:(List Int)×Bool×Int)(x39:aK):∀(n:Nat)(t:Int)(lw:_)(b:List Int)(bad:Bool),f133_l1 k r28 k34 r36 x39 n t lw b bad=glp f171 (List.length (List.replicate (Int.toNat r36.2.2) ((aB.mk [] []):aB)):Int) (λlw45 c00v46 c02v47=>(k34 (List.set r28.2.2 (Int.toNat k) (aK.mk x39.prio x39.at_ lw45 x39.deadline)) c00v46 c02v47)) n t lw b bad
 |0,_,_,_,_=>rfl
 |n+1,t,lw,b,bad=>by simp only[f133_l1,glp,f133_l1_eq]
theorem f133_el(M k:Nat)(hM:M<=900000000):Ek M k (λb bad l=>f133 b bad l (k:Int)) gg.dec (λy _=>y):=by unfold f133;simp only[f133_l1_eq];exact Ek.eq (Ek.call (p2:=(λ(u:(List aB)×(Int)×Unit)(x:aK)=>(⟨x.prio,x.at_,u.1,u.2.1⟩:aK))) (put:=(λ(y:aK)(_:aK)=>y)) (λ(o:Int×Int)(u:(List aB)×(Int)×Unit)=>(⟨o.1,o.2,u.1,u.2.1⟩:aK)) (F:=λb bad l=>f131_k b bad l (k:Int)) (f131_k_el M k) (j0 (p2:=(λ(u:(Int)×Unit)(x:aK)=>(⟨x.prio,x.at_,x.entries,u.1⟩:aK))) (put:=(λ(u:(List aB)×(Int)×Unit)(x:aK)=>(⟨x.prio,x.at_,u.1,u.2.1⟩:aK))) (F:=f171) (dec:=jC.dec) (sz:=48) (z0:=(aB.mk [] [])) (λ(x:aK)=>x.entries) (λ(x:aK) v=>(⟨x.prio,x.at_,v,x.deadline⟩:aK)) Prod.mk dC oM oM (λM' j h=>f171_el M' j oM) (Ek.inl (p2:=(λ(_:Unit)(x:aK)=>x)) (put:=(λ(u:(Int)×Unit)(x:aK)=>(⟨x.prio,x.at_,x.entries,u.1⟩:aK))) (λ(x:aK) v=>(⟨x.prio,x.at_,x.entries,v⟩:aK)) Prod.mk (Ek.ret M k) λ_ _ _=>rfl) λ_ _ _=>rfl) λ_ _ _=>rfl) (λb=>by simp only[dc2,gg,pr,liC,Cod.two,Cod.list,aY,Option.bind_assoc,bnS])
theorem f173s_l1_eq(rec173:(List Int)->Bool->(List ae)->Int->Option ((List Int)×Bool×(List ae)))(k:Int)(lw76:List ae)(k87:(List ae)->(List Int)->Bool->Option ((List Int)×Bool×(List ae)))(r89:(List Int)×Bool×Int)(x92:ae):∀(n:Nat)(t:Int)(lw:_)(b:List Int)(bad:Bool),f173s_l1 rec173 k lw76 k87 r89 x92 n t lw b bad=glp rec173 (List.length (List.replicate (Int.toNat r89.2.2) ((ae.mk 0 0 0 0 0 0 0 0 []):ae)):Int) (λlw98 c00v99 c02v100=>(k87 (List.set lw76 (Int.toNat k) (ae.mk x92.kind x92.op x92.n x92.o x92.off x92.len x92.lo x92.hi lw98)) c00v99 c02v100)) n t lw b bad
 |0,_,_,_,_=>rfl
 |n+1,t,lw,b,bad=>by simp only[f173s_l1,glp,f173s_l1_eq]
theorem f173s_el{n:Nat}{rec:List Int->Bool->List ae->Int->Option (List Int×Bool×List ae)}(M k:Nat)(hM:M<=900000000)(hr:∀M' (j:Nat),M'+8<=M->Ek M' j (λb bad l=>rec b bad l (j:Int)) (exC n).dec λy _=>y):Ek M k (λb bad l=>f173s rec b bad l (k:Int)) (exC (n+1)).dec (λy _=>y):=by unfold f173s;simp only[f173s_l1_eq];exact Ek.eq (Ek.call (p2:=(λ(u:(Int)×(Int)×(Int×Int×Int)×(Int)×(Int)×(List ae)×Unit)(x:ae)=>(⟨x.kind,u.1,u.2.1,u.2.2.1.1,u.2.2.1.2.1,u.2.2.1.2.2,u.2.2.2.1,u.2.2.2.2.1,u.2.2.2.2.2.1⟩:ae))) (put:=(λ(y:ae)(_:ae)=>y)) (λ(o:Int)(u:(Int)×(Int)×(Int×Int×Int)×(Int)×(Int)×(List ae)×Unit)=>(⟨o,u.1,u.2.1,u.2.2.1.1,u.2.2.1.2.1,u.2.2.1.2.2,u.2.2.2.1,u.2.2.2.2.1,u.2.2.2.2.2.1⟩:ae)) (F:=λb bad l=>f192_e b bad l (k:Int)) (f192_e_el M k) (Ek.call (p2:=(λ(u:(Int)×(Int×Int×Int)×(Int)×(Int)×(List ae)×Unit)(x:ae)=>(⟨x.kind,x.op,u.1,u.2.1.1,u.2.1.2.1,u.2.1.2.2,u.2.2.1,u.2.2.2.1,u.2.2.2.2.1⟩:ae))) (put:=(λ(u:(Int)×(Int)×(Int×Int×Int)×(Int)×(Int)×(List ae)×Unit)(x:ae)=>(⟨x.kind,u.1,u.2.1,u.2.2.1.1,u.2.2.1.2.1,u.2.2.1.2.2,u.2.2.2.1,u.2.2.2.2.1,u.2.2.2.2.2.1⟩:ae))) Prod.mk (F:=λb bad l=>f193_e b bad l (k:Int)) (f193_e_el M k) (Ek.inl (p2:=(λ(u:(Int×Int×Int)×(Int)×(Int)×(List ae)×Unit)(x:ae)=>(⟨x.kind,x.op,x.n,u.1.1,u.1.2.1,u.1.2.2,u.2.1,u.2.2.1,u.2.2.2.1⟩:ae))) (put:=(λ(u:(Int)×(Int×Int×Int)×(Int)×(Int)×(List ae)×Unit)(x:ae)=>(⟨x.kind,x.op,u.1,u.2.1.1,u.2.1.2.1,u.2.1.2.2,u.2.2.1,u.2.2.2.1,u.2.2.2.2.1⟩:ae))) (λ(x:ae) v=>(⟨x.kind,x.op,v,x.o,x.off,x.len,x.lo,x.hi,x.l⟩:ae)) Prod.mk (Ek.call (p2:=(λ(u:(Int)×(Int)×(List ae)×Unit)(x:ae)=>(⟨x.kind,x.op,x.n,x.o,x.off,x.len,u.1,u.2.1,u.2.2.1⟩:ae))) (put:=(λ(u:(Int×Int×Int)×(Int)×(Int)×(List ae)×Unit)(x:ae)=>(⟨x.kind,x.op,x.n,u.1.1,u.1.2.1,u.1.2.2,u.2.1,u.2.2.1,u.2.2.2.1⟩:ae))) Prod.mk (F:=λb bad l=>f131_e b bad l (k:Int)) (f131_e_el M k) (Ek.inl (p2:=(λ(u:(Int)×(List ae)×Unit)(x:ae)=>(⟨x.kind,x.op,x.n,x.o,x.off,x.len,x.lo,u.1,u.2.1⟩:ae))) (put:=(λ(u:(Int)×(Int)×(List ae)×Unit)(x:ae)=>(⟨x.kind,x.op,x.n,x.o,x.off,x.len,u.1,u.2.1,u.2.2.1⟩:ae))) (λ(x:ae) v=>(⟨x.kind,x.op,x.n,x.o,x.off,x.len,v,x.hi,x.l⟩:ae)) Prod.mk (Ek.inl (p2:=(λ(u:(List ae)×Unit)(x:ae)=>(⟨x.kind,x.op,x.n,x.o,x.off,x.len,x.lo,x.hi,u.1⟩:ae))) (put:=(λ(u:(Int)×(List ae)×Unit)(x:ae)=>(⟨x.kind,x.op,x.n,x.o,x.off,x.len,x.lo,u.1,u.2.1⟩:ae))) (λ(x:ae) v=>(⟨x.kind,x.op,x.n,x.o,x.off,x.len,x.lo,v,x.l⟩:ae)) Prod.mk (j0 (p2:=(λ(_:Unit)(x:ae)=>x)) (put:=(λ(u:(List ae)×Unit)(x:ae)=>(⟨x.kind,x.op,x.n,x.o,x.off,x.len,x.lo,x.hi,u.1⟩:ae))) (F:=rec) (dec:=(exC n).dec) (sz:=80) (z0:=(ae.mk 0 0 0 0 0 0 0 0 [])) (λ(x:ae)=>x.l) (λ(x:ae) v=>(⟨x.kind,x.op,x.n,x.o,x.off,x.len,x.lo,x.hi,v⟩:ae)) Prod.mk dC oM oM (λM' j h=>hr M' j h) (Ek.ret M k) λ_ _ _=>rfl) λ_ _ _=>rfl) λ_ _ _=>rfl) λ_ _ _=>rfl) λ_ _ _=>rfl) λ_ _ _=>rfl) λ_ _ _=>rfl) (λb=>by simp only[dc2,exC,pr,liC,Cod.two,Cod.list,aY,Option.bind_assoc,bnS])
theorem f173_el:∀(n M k:Nat),M<8*n->M<=900000000->Ek M k (λb bad l=>f173 n b bad l (k:Int)) (exC n).dec (λy _=>y)
 |0,M,k,h,_=>oM
 |n+1,M,k,h,hM=>by
  have:=f173s_el (n:=n) (rec:=f173 n) M k hM λM' j h'=>f173_el n M' j oM oM;exact this
theorem f135_l1_eq(k:Int)(r20:(List Int)×Bool×(List aT))(k26:(List aT)->(List Int)->Bool->Option ((List Int)×Bool×(List aT)))(r28:(List Int)×Bool×Int)(x31:aT):∀(n:Nat)(t:Int)(lw:_)(b:List Int)(bad:Bool),f135_l1 k r20 k26 r28 x31 n t lw b bad=glp (f173 9223372036854775808) (List.length (List.replicate (Int.toNat r28.2.2) ((ae.mk 0 0 0 0 0 0 0 0 []):ae)):Int) (λlw37 c00v38 c02v39=>(k26 (List.set r20.2.2 (Int.toNat k) (aT.mk x31.ceiling lw37)) c00v38 c02v39)) n t lw b bad
 |0,_,_,_,_=>rfl
 |n+1,t,lw,b,bad=>by simp only[f135_l1,glp,f135_l1_eq]
theorem f135_el{N:Nat}(hN:9223372036854775808=N)(M k:Nat)(hM:M<=900000000):Ek M k (λb bad l=>f135 b bad l (k:Int)) (ib N).dec (λy _=>y):=by unfold f135;simp only[f135_l1_eq,hN];exact Ek.eq (Ek.call (p2:=(λ(u:(List ae)×Unit)(x:aT)=>(⟨x.ceiling,u.1⟩:aT))) (put:=(λ(y:aT)(_:aT)=>y)) (λ(o:Int)(u:(List ae)×Unit)=>(⟨o,u.1⟩:aT)) (F:=λb bad l=>f131_p b bad l (k:Int)) (f131_p_el M k) (j0 (p2:=(λ(_:Unit)(x:aT)=>x)) (put:=(λ(u:(List ae)×Unit)(x:aT)=>(⟨x.ceiling,u.1⟩:aT))) (F:=(f173 N)) (dec:=(exC N).dec) (sz:=80) (z0:=(ae.mk 0 0 0 0 0 0 0 0 [])) (λ(x:aT)=>x.barriers) (λ(x:aT) v=>(⟨x.ceiling,v⟩:aT)) Prod.mk dC oM oM (λM' j h=>f173_el N M' j oM oM) (Ek.ret M k) λ_ _ _=>rfl) λ_ _ _=>rfl) (λb=>by simp only[dc2,ib,pr,liC,Cod.two,Cod.list,aY,Option.bind_assoc,bnS])
theorem f126_l1_eq(l:List (List Int))(k:Int)(k16:(List (List Int))->(List Int)->Bool->Option ((List Int)×Bool×(List (List Int))))(r18:(List Int)×Bool×Int):∀(n:Nat)(t:Int)(lw:_)(b:List Int)(bad:Bool),f126_l1 l k k16 r18 n t lw b bad=glp f169 (List.length (List.replicate (Int.toNat r18.2.2) (0:Int)):Int) (λlw27 c00v28 c02v29=>(k16 (List.set l (Int.toNat k) lw27) c00v28 c02v29)) n t lw b bad
 |0,_,_,_,_=>rfl
 |n+1,t,lw,b,bad=>by simp only[f126_l1,glp,f126_l1_eq]
theorem f126_el(M k:Nat)(hM:M<=900000000):Ek M k (λb bad l=>f126 b bad l (k:Int)) (liC aY).dec (λy _=>y):=by
 unfold f126;simp only[f126_l1_eq];exact Ek.eq (j0 (p2:=λ(_:Unit)(x:List Int)=>x) (put:=λy _=>y) (F:=f169) (dec:=d8) (sz:=8) (z0:=0) (λx:List Int=>x) (λ_ y=>y) (λo _=>o) dC oM oM (λM' j _=>f169_el M' j) (Ek.ret M k) λ_ _ _=>rfl) (λb=>by
  show(eu d8 (cz d8) b).bind _=eu d8 (cz d8) b;cases eu d8 (cz d8) b<;>rfl)
theorem lF{β γ:Type}{b b1 b2:Bs}{bad bad1 bad2:Bool}{x x1:β}{z z2:γ}{d1:Bs->Option (β×Bs)}{d2:Bs->Option (γ×Bs)}
  (g1:ji b bad x d1 (λy _=>y) b1 bad1 x1)(g2:ji b1 bad1 z d2 (λy _=>y) b2 bad2 z2):ji b bad (x,z) (dc2 d1 d2 Prod.mk) (λy _=>y) b2 bad2 (x1,z2):=by
 refine⟨g2.y,Nat.le_trans g2.l g1.l,λh=>g2.t (g1.t h),λh y r hd=>?_,λh hd=>?_⟩;obtain⟨⟨u,s⟩,q1,hd⟩:=Option.bind_eq_some_iff.1 hd;obtain⟨⟨v,s'⟩,q2,hd⟩:=Option.bind_eq_some_iff.1 hd;simp only[ay,Prod.mk.injEq] at hd;obtain⟨rfl,rfl⟩:=hd;obtain⟨rfl,rfl,rfl⟩:=g1.s h u s q1;obtain⟨rfl,rfl,rfl⟩:=g2.s rfl v s' q2;exact⟨rfl,rfl,rfl⟩;cases q1:d1 b with
 |none=>exact g2.t (g1.n h q1)
 |some u=>
  rw[dc2,q1,bnS] at hd;obtain⟨rfl,rfl,rfl⟩:=g1.s h u.1 u.2 q1;cases q2:d2 u.2 with
  |none=>exact g2.n rfl q2
  |some v=>rw[q2] at hd;cases hd
theorem tl{R β:Type}{M sz:Nat}{z0:β}{F:List Int->Bool->List β->Int->Option (List Int×Bool×List β)}{dec:Bs->Option (β×Bs)}(K:List Int->Bool->List β->Option R)(t0:List β)(hs:sz<=1000)(hMM:M<=900000000)(hF:∀M' (j:Nat),M'+8<=M->Ek M' j (λb bad l=>F b bad l (j:Int)) dec λy _=>y){b:Bs}(hb:Byt b)(hM:b.length<=M)(bad:Bool):
  ∃b' bad' x',(aq K λkk=>Option.bind (f53 b bad (List.length t0:Int)) λr=>bif (decide (r.2.2<0))||(decide (r.2.2>(i64.wrap (Int.tdiv (List.length r.1:Int) 8)))) then kk r.1 true t0 else aS (dP sz r.2.2) (glp F (List.length (List.replicate (Int.toNat r.2.2) z0):Int) (λlw b bad=>kk b bad lw) (Int.toNat ((List.length (List.replicate (Int.toNat r.2.2) z0):Int) - 0)+1) 0 (List.replicate (Int.toNat r.2.2) z0) r.1 r.2.1))=K b' bad' x'/\ji b bad t0 (eu d8 (cz dec)) (λy _=>y) b' bad' x':=by
 rw[dn];have hsz:sz*(b.length / 8)<=281474976710656:=by have:=Nat.mul_le_mul hs (show b.length / 8<=900000000 by omega);omega
 obtain⟨b',bad',lw',h,g⟩:=ma (fin:=λlw b bad=>K b bad lw) (z0:=z0) hs oM hF t0.length (λb=>K b true t0) hb hM hsz bad;rcases h with⟨h,hbd⟩|h
 subst hbd;refine⟨b',true,t0,h,g.y,g.l,g.t,λe y r hd=>?_,g.n⟩;obtain⟨_,h2,_⟩:=g.s e y r hd;cases h2;exact⟨b',bad',lw',h,g.y,g.l,g.t,g.s,g.n⟩
theorem f131_T_eq{b:Bs}(hb:Byt b)(bad:Bool)(a c d e f g h:_)(t:Int)(i j k:_):∃b' bad' t',f131_T b bad a c d e f g h t i j k=some (b',bad',t')/\ji b bad t d8 (λy _=>y) b' bad' t':=by obtain⟨b',bad',t',e,g⟩:=kQ hb bad t (λ_ v=>v);refine⟨b',bad',t',?_,g⟩;unfold f131_T;rw[dn,f53_eq hb,bnS,dcT rfl,Bool.not_true,cdF];refine congrArg some (Eq.trans ?_ e);cases d8 b<;>rfl
theorem f54_l1_eq(k87:(List Int)->Bool->(List aJ)->Option ((List Int)×Bool×(List aJ)×(List ak)×(List Loop)×(List az)×(List (List Int))×(List Obj)×(List bq)×Int×(List aK)×(List aT)×(List bf)))(r88:(List Int)×Bool×Int):∀(n:Nat)(t:Int)(lw:_)(b:List Int)(bad:Bool),f54_l1 k87 r88 n t lw b bad=glp f118 (List.length (List.replicate (Int.toNat r88.2.2) ((aJ.mk 0 0 0 0 0 0 0):aJ)):Int) (λlw96 c00v97 c02v98=>(k87 c00v97 c02v98 lw96)) n t lw b bad
 |0,_,_,_,_=>rfl
 |n+1,t,lw,b,bad=>by simp only[f54_l1,glp,f54_l1_eq]
theorem f54_l2_eq(k110:(List Int)->Bool->(List ak)->Option ((List Int)×Bool×(List aJ)×(List ak)×(List Loop)×(List az)×(List (List Int))×(List Obj)×(List bq)×Int×(List aK)×(List aT)×(List bf)))(r111:(List Int)×Bool×Int):∀(n:Nat)(t:Int)(lw:_)(b:List Int)(bad:Bool),f54_l2 k110 r111 n t lw b bad=glp f120 (List.length (List.replicate (Int.toNat r111.2.2) ((ak.mk 0 0 0 false):ak)):Int) (λlw119 c00v120 c02v121=>(k110 c00v120 c02v121 lw119)) n t lw b bad
 |0,_,_,_,_=>rfl
 |n+1,t,lw,b,bad=>by simp only[f54_l2,glp,f54_l2_eq]
theorem f54_l3_eq(k133:(List Int)->Bool->(List Loop)->Option ((List Int)×Bool×(List aJ)×(List ak)×(List Loop)×(List az)×(List (List Int))×(List Obj)×(List bq)×Int×(List aK)×(List aT)×(List bf)))(r134:(List Int)×Bool×Int):∀(n:Nat)(t:Int)(lw:_)(b:List Int)(bad:Bool),f54_l3 k133 r134 n t lw b bad=glp f122 (List.length (List.replicate (Int.toNat r134.2.2) ((Loop.mk 0 0 0):Loop)):Int) (λlw142 c00v143 c02v144=>(k133 c00v143 c02v144 lw142)) n t lw b bad
 |0,_,_,_,_=>rfl
 |n+1,t,lw,b,bad=>by simp only[f54_l3,glp,f54_l3_eq]
theorem f54_l4_eq(k156:(List Int)->Bool->(List az)->Option ((List Int)×Bool×(List aJ)×(List ak)×(List Loop)×(List az)×(List (List Int))×(List Obj)×(List bq)×Int×(List aK)×(List aT)×(List bf)))(r157:(List Int)×Bool×Int):∀(n:Nat)(t:Int)(lw:_)(b:List Int)(bad:Bool),f54_l4 k156 r157 n t lw b bad=glp f124 (List.length (List.replicate (Int.toNat r157.2.2) ((az.mk [] 0 0):az)):Int) (λlw165 c00v166 c02v167=>(k156 c00v166 c02v167 lw165)) n t lw b bad
 |0,_,_,_,_=>rfl
 |n+1,t,lw,b,bad=>by simp only[f54_l4,glp,f54_l4_eq]
theorem f54_l5_eq(k179:(List Int)->Bool->(List (List Int))->Option ((List Int)×Bool×(List aJ)×(List ak)×(List Loop)×(List az)×(List (List Int))×(List Obj)×(List bq)×Int×(List aK)×(List aT)×(List bf)))(r180:(List Int)×Bool×Int):∀(n:Nat)(t:Int)(lw:_)(b:List Int)(bad:Bool),f54_l5 k179 r180 n t lw b bad=glp f126 (List.length (List.replicate (Int.toNat r180.2.2) ([]:List Int)):Int) (λlw188 c00v189 c02v190=>(k179 c00v189 c02v190 lw188)) n t lw b bad
 |0,_,_,_,_=>rfl
 |n+1,t,lw,b,bad=>by simp only[f54_l5,glp,f54_l5_eq]
theorem f54_l6_eq(k202:(List Int)->Bool->(List Obj)->Option ((List Int)×Bool×(List aJ)×(List ak)×(List Loop)×(List az)×(List (List Int))×(List Obj)×(List bq)×Int×(List aK)×(List aT)×(List bf)))(r203:(List Int)×Bool×Int):∀(n:Nat)(t:Int)(lw:_)(b:List Int)(bad:Bool),f54_l6 k202 r203 n t lw b bad=glp f128 (List.length (List.replicate (Int.toNat r203.2.2) ((Obj.mk 0 0 0 false []):Obj)):Int) (λlw211 c00v212 c02v213=>(k202 c00v212 c02v213 lw211)) n t lw b bad
 |0,_,_,_,_=>rfl
 |n+1,t,lw,b,bad=>by simp only[f54_l6,glp,f54_l6_eq]
theorem f54_l7_eq(k225:(List Int)->Bool->(List bq)->Option ((List Int)×Bool×(List aJ)×(List ak)×(List Loop)×(List az)×(List (List Int))×(List Obj)×(List bq)×Int×(List aK)×(List aT)×(List bf)))(r226:(List Int)×Bool×Int):∀(n:Nat)(t:Int)(lw:_)(b:List Int)(bad:Bool),f54_l7 k225 r226 n t lw b bad=glp f130 (List.length (List.replicate (Int.toNat r226.2.2) ((bq.mk 0 0 0):bq)):Int) (λlw234 c00v235 c02v236=>(k225 c00v235 c02v236 lw234)) n t lw b bad
 |0,_,_,_,_=>rfl
 |n+1,t,lw,b,bad=>by simp only[f54_l7,glp,f54_l7_eq]
theorem f54_l8_eq(k250:(List Int)->Bool->(List aK)->Option ((List Int)×Bool×(List aJ)×(List ak)×(List Loop)×(List az)×(List (List Int))×(List Obj)×(List bq)×Int×(List aK)×(List aT)×(List bf)))(r251:(List Int)×Bool×Int):∀(n:Nat)(t:Int)(lw:_)(b:List Int)(bad:Bool),f54_l8 k250 r251 n t lw b bad=glp f133 (List.length (List.replicate (Int.toNat r251.2.2) ((aK.mk 0 0 [] 0):aK)):Int) (λlw259 c00v260 c02v261=>(k250 c00v260 c02v261 lw259)) n t lw b bad
 |0,_,_,_,_=>rfl
 |n+1,t,lw,b,bad=>by simp only[f54_l8,glp,f54_l8_eq]
theorem f54_l9_eq(k273:(List Int)->Bool->(List aT)->Option ((List Int)×Bool×(List aJ)×(List ak)×(List Loop)×(List az)×(List (List Int))×(List Obj)×(List bq)×Int×(List aK)×(List aT)×(List bf)))(r274:(List Int)×Bool×Int):∀(n:Nat)(t:Int)(lw:_)(b:List Int)(bad:Bool),f54_l9 k273 r274 n t lw b bad=glp f135 (List.length (List.replicate (Int.toNat r274.2.2) ((aT.mk 0 []):aT)):Int) (λlw282 c00v283 c02v284=>(k273 c00v283 c02v284 lw282)) n t lw b bad
 |0,_,_,_,_=>rfl
 |n+1,t,lw,b,bad=>by simp only[f54_l9,glp,f54_l9_eq]
theorem f54_l10_eq(k296:(List Int)->Bool->(List bf)->Option ((List Int)×Bool×(List aJ)×(List ak)×(List Loop)×(List az)×(List (List Int))×(List Obj)×(List bq)×Int×(List aK)×(List aT)×(List bf)))(r297:(List Int)×Bool×Int):∀(n:Nat)(t:Int)(lw:_)(b:List Int)(bad:Bool),f54_l10 k296 r297 n t lw b bad=glp f137 (List.length (List.replicate (Int.toNat r297.2.2) ((bf.mk 0 0):bf)):Int) (λlw305 c00v306 c02v307=>(k296 c00v306 c02v307 lw305)) n t lw b bad
 |0,_,_,_,_=>rfl
 |n+1,t,lw,b,bad=>by simp only[f54_l10,glp,f54_l10_eq]
theorem qf(N:Nat)(b:Bs):(cA N).dec b=(dc2 (eu d8 (cz ik.dec)) (dc2 (eu d8 (cz iT.dec)) (dc2 (eu d8 (cz iN.dec)) (dc2 (eu d8 (cz gP.dec)) (dc2 (eu d8 (cz (liC aY).dec)) (dc2 (eu d8 (cz gq.dec)) (dc2 (eu d8 (cz im.dec)) (dc2 d8 (dc2 (eu d8 (cz gg.dec)) (dc2 (eu d8 (cz (ib N).dec)) (eu d8 (cz gQ.dec)) Prod.mk) Prod.mk) Prod.mk) Prod.mk) Prod.mk) Prod.mk) Prod.mk) Prod.mk) Prod.mk) Prod.mk b).bind λu=>some (⟨u.1.1,u.1.2.1,u.1.2.2.1,u.1.2.2.2.1,u.1.2.2.2.2.1,u.1.2.2.2.2.2.1,u.1.2.2.2.2.2.2.1,u.1.2.2.2.2.2.2.2.1,u.1.2.2.2.2.2.2.2.2.1,u.1.2.2.2.2.2.2.2.2.2.1,u.1.2.2.2.2.2.2.2.2.2.2⟩,u.2):=by simp only[cA,mm,nX,pr,liC,Cod.two,Cod.list,dc2,aY,Option.bind_assoc,bnS]
theorem f54_eq{N:Nat}(hN:9223372036854775808=N){b:Bs}(hb:Byt b)(hM:b.length<=900000000):∃b' bad' t,f54 b false [] [] [] [] [] [] [] 0 [] [] []=some (b',bad',t.insns,t.handlers,t.loops,t.selects,t.lists,t.objs,t.inits,t.excs,t.tasks,t.prots,t.checks)/\(∀y r,(cA N).dec b=some (y,r)->b'=r/\bad'=false/\t=y)/\((cA N).dec b=none->bad'=true):=by
 unfold f54;simp only[f54_l1_eq,f54_l2_eq,f54_l3_eq,f54_l4_eq,f54_l5_eq,f54_l6_eq,f54_l7_eq,f54_l8_eq,f54_l9_eq,f54_l10_eq];obtain⟨b1,w1,x1,e1,g1⟩:=tl (sz:=56) (z0:=(aJ.mk 0 0 0 0 0 0 0)) (F:=f118) (M:=900000000) _ [] dC (Nat.le_refl _) (λM' j h=>f118_el M' j oM) hb hM false;rw[e1];have m1:b1.length<=900000000:=Nat.le_trans g1.l hM;obtain⟨b2,w2,x2,e2,g2⟩:=tl (sz:=32) (z0:=(ak.mk 0 0 0 false)) (F:=f120) (M:=900000000) _ [] dC (Nat.le_refl _) (λM' j h=>f120_el M' j oM) g1.y m1 w1;rw[e2];have m2:b2.length<=900000000:=Nat.le_trans g2.l m1;obtain⟨b3,w3,x3,e3,g3⟩:=tl (sz:=24) (z0:=(Loop.mk 0 0 0)) (F:=f122) (M:=900000000) _ [] dC (Nat.le_refl _) (λM' j h=>f122_el M' j oM) g2.y m2 w2;rw[e3];have m3:b3.length<=900000000:=Nat.le_trans g3.l m2;obtain⟨b4,w4,x4,e4,g4⟩:=tl (sz:=40) (z0:=(az.mk [] 0 0)) (F:=f124) (M:=900000000) _ [] dC (Nat.le_refl _) (λM' j h=>f124_el M' j oM) g3.y m3 w3;rw[e4];have m4:b4.length<=900000000:=Nat.le_trans g4.l m3;obtain⟨b5,w5,x5,e5,g5⟩:=tl (sz:=24) (z0:=([]:List Int)) (F:=f126) (M:=900000000) _ [] dC (Nat.le_refl _) (λM' j h=>f126_el M' j oM) g4.y m4 w4;rw[e5];have m5:b5.length<=900000000:=Nat.le_trans g5.l m4;obtain⟨b6,w6,x6,e6,g6⟩:=tl (sz:=56) (z0:=(Obj.mk 0 0 0 false [])) (F:=f128) (M:=900000000) _ [] dC (Nat.le_refl _) (λM' j h=>f128_el M' j oM) g5.y m5 w5;rw[e6];have m6:b6.length<=900000000:=Nat.le_trans g6.l m5;obtain⟨b7,w7,x7,e7,g7⟩:=tl (sz:=24) (z0:=(bq.mk 0 0 0)) (F:=f130) (M:=900000000) _ [] dC (Nat.le_refl _) (λM' j h=>f130_el M' j oM) g6.y m6 w6;rw[e7];have m7:b7.length<=900000000:=Nat.le_trans g7.l m6;obtain⟨b8,w8,x8,e8,g8⟩:=f131_T_eq g7.y w7 _ _ _ _ _ _ _ 0 [] [] [];rw[e8,bnS];have m8:b8.length<=900000000:=Nat.le_trans g8.l m7;obtain⟨b9,w9,x9,e9,g9⟩:=tl (sz:=48) (z0:=(aK.mk 0 0 [] 0)) (F:=f133) (M:=900000000) _ [] dC (Nat.le_refl _) (λM' j h=>f133_el M' j oM) g8.y m8 w8;rw[e9];have m9:b9.length<=900000000:=Nat.le_trans g9.l m8;obtain⟨b10,w10,x10,e10,g10⟩:=tl (sz:=32) (z0:=(aT.mk 0 [])) (F:=f135) (M:=900000000) _ [] dC (Nat.le_refl _) (λM' j h=>f135_el hN M' j oM) g9.y m9 w9;rw[e10];have m10:b10.length<=900000000:=Nat.le_trans g10.l m9;obtain⟨b11,w11,x11,e11,g11⟩:=tl (sz:=16) (z0:=(bf.mk 0 0)) (F:=f137) (M:=900000000) _ [] dC (Nat.le_refl _) (λM' j h=>f137_el M' j oM) g10.y m10 w10;rw[e11];have m11:b11.length<=900000000:=Nat.le_trans g11.l m10;have G:=(lF g1 (lF g2 (lF g3 (lF g4 (lF g5 (lF g6 (lF g7 (lF g8 (lF g9 (lF g10 g11))))))))));refine⟨b11,w11,⟨x1,x2,x3,x4,x5,x6,x7,x8,x9,x10,x11⟩,rfl,λy r hd=>?_,λhd=>?_⟩;rw[qf] at hd;obtain⟨⟨u,s⟩,q,hd⟩:=Option.bind_eq_some_iff.1 hd;simp only[ay,Prod.mk.injEq] at hd;obtain⟨rfl,rfl⟩:=hd;obtain⟨h1,h2,h3⟩:=G.s rfl u s q;refine⟨h1,h2,?_⟩;rw[<-h3];rw[qf] at hd;refine G.n rfl ?_;revert hd;generalize dc2 _ _ _ b=o;intro hd;cases o with
 |none=>rfl
 |some u=>cases hd
def Pt(w:Bs)(o:Bs->Option Bs):Prop:=∀l:Bs,l.length+w.length<=1000000000->o l=some (l++w)
theorem Pt.bind{a b:Bs}{f g:Bs->Option Bs}(h1:Pt a f)(h2:Pt b g):Pt (a++b) (λl=>Option.bind (f l) g):=λl hl=>by
 rw[List.length_append] at hl;show Option.bind (f l) g=_;rw[h1 l oM,bnS,h2 _ (by rw[List.length_append];omega),List.append_assoc]
theorem Pt.eq{a b:Bs}{f:Bs->Option Bs}(h:Pt a f)(e:a=b):Pt b f:=e▸h
theorem Pt.some:Pt [] (λl=>some l):=λl _=>by rw[List.append_nil]
theorem uS{n:Nat}{L M:Bs}(hn:n<=64)(hl:L.length+M.length<=1000000000):gA n L M=true:=by
 unfold gA;have:maxLen=9223372036854775807:=by decide
 have h2:(L.length+M.length)*n<=1000000000*64:=Nat.mul_le_mul hl hn;rw[this,dcT oM,Bool.true_and];exact dcT oM
theorem u64w{x:Int}(h1:0<=x)(h2:x<18446744073709551616):IntKind.u64.wrap x=x:=by simp only[IntKind.wrap,IntKind.bits,IntKind.signed];simp;omega
theorem u64m(x:Int):IntKind.u64.wrap x=x%18446744073709551616:=by simp only[IntKind.wrap,IntKind.bits,IntKind.signed];simp
theorem f175_l1_eq(K:Bs->Option Bs):∀(n i:Nat)(u:Int)(lw:Bs),i<=8->8<n+i->lw.length=i->0<=u->u<18446744073709551616->f175_l1 K n u (i:Int) lw=K (lw++dig (8 - i) u)
 |0,i,u,lw,_,h,_,_,_=>oM
 |n+1,i,u,lw,hi,hn,hl,h0,h1=>by
  rw[f175_l1];by_cases hlt:i<8;have e1:IntKind.u8.wrap (Int.tmod u 256)=u%256:=by rw[Int.tmod_eq_emod_of_nonneg h0,u8w,Int.emod_emod_of_dvd _ (Int.dvd_refl _)]
  have e2:IntKind.u64.wrap (Int.tdiv u 256)=u / 256:=by rw[Int.tdiv_eq_ediv_of_nonneg h0,u64w oM oM]
  have e3:8 - i=(8 - (i+1))+1:=oM;rw[dcT (show(i:Int)<8 by omega),cdT,fu _ (uS dC (by simp only[List.length_singleton];omega)),e1,e2,ep oM oM,e3,dig];have:=f175_l1_eq K n (i+1) (u / 256) (lw++ [u%256]) oM oM (by rw[List.length_append,hl];rfl) oM oM;rw[List.append_assoc] at this;exact this;have:i=8:=oM;subst this;rw[dcF oM,cdF,Nat.sub_self,dig,List.append_nil]
theorem f175_eq(v:Int):f175 v=some (e8 v):=by unfold f175;obtain⟨F,hF⟩:∃F:Nat,F=9223372036854775808:=⟨_,rfl⟩;rw[dn,<-hF,u64m];exact f175_l1_eq some F 0 _ [] oM oM rfl oM oM
theorem jg(v:Int):Pt (e8 v) (λl=>f143 l v):=λl hl=>by
 show f143 l v=_;unfold f143;rw[f175_eq,bnS,fu _ (uS dC hl)]
theorem wG{β:Type}(L:List β)(enc:β->Bs)(F:Nat->Int->Bs->Option Bs)(hend:∀n lw,F (n+1) (L.length:Int) lw=none\/True){K:Bs->Option Bs}{wK:Bs}(hK:Pt wK K)(hend2:∀n lw,F (n+1) (L.length:Int) lw=K lw)
  (hstep:∀(n i:Nat)(hi:i<L.length)(w:Bs),Pt w (F n ((i+1:Nat):Int))->Pt (enc L[i]++w) (F (n+1) (i:Int))):∀(n i:Nat),i<=L.length->L.length<n+i->Pt ((L.drop i).flatMap enc++wK) (F n (i:Int))
 |0,i,_,h=>oM
 |n+1,i,hi,hn=>by
  by_cases hlt:i<L.length;have:=hstep n i hlt _ (wG L enc F hend hK hend2 hstep n (i+1) oM oM);rw[List.drop_eq_getElem_cons hlt,List.flatMap_cons,List.append_assoc];exact this;have e:i=L.length:=oM;subst e;intro l hl;rw[List.drop_length,List.flatMap_nil,List.nil_append] at hl⊢;rw[hend2];exact hK l hl
theorem dE{β:Type}{L:List β}{enc:β->Bs}{F:Nat->Int->Bs->Option Bs}{K:Bs->Option Bs}{wK:Bs}(hl:L.length<9223372036854775808)(hK:Pt wK K)(hend:∀n lw,F (n+1) (L.length:Int) lw=K lw)
  (hstep:∀(n i:Nat)(hi:i<L.length)(w:Bs),Pt w (F n ((i+1:Nat):Int))->Pt (enc L[i]++w) (F (n+1) (i:Int))){n:Nat}(hn:n=9223372036854775808):Pt (L.flatMap enc++wK) (F n 0):=
 wG L enc F (λ_ _=> .inr trivial) hK hend hstep n 0 (Nat.zero_le _) oM
theorem gtn(n:Nat):decide ((n:Int)<(n:Int))=false:=dcF oM
theorem gw1{i n:Nat}(h:i<n)(hn:n<9223372036854775808):i64.wrap ((i:Int)+1)=((i+1:Nat):Int):=by rw[ep oM oM];rfl
theorem d9(xs:List Int)(h:xs.length<9223372036854775808):Pt (xs.flatMap e8) (λl=>f176 l xs):=by unfold f176;obtain⟨F,hF⟩:∃F:Nat,F=9223372036854775808:=⟨_,rfl⟩;rw[<-hF];refine(dE (F:=f176_l1 xs) (enc:=e8) h Pt.some (λn lw=>by rw[f176_l1,gtn,cdF]) (λn i hi w hw l hl=>?_) hF).eq (List.append_nil _);rw[f176_l1,glt hi,cdT,dh hi,bnS,gw1 hi h];exact((jg _).bind hw) l hl
theorem P177(b:Bool):Pt (nl.enc b) (λl=>f177 l b):=by unfold f177;cases b;exact((jg 0).bind Pt.some).eq (List.append_nil _);exact((jg 1).bind Pt.some).eq (List.append_nil _)
theorem wu(xs:List Int)(h:xs.length<9223372036854775808):Pt ((liC aY).enc xs) (λl=>f178 l xs):=by unfold f178;refine((d9 [(xs.length:Int)] sM).bind ((d9 xs h).bind Pt.some)).eq ?_;simp only[List.flatMap_cons,List.flatMap_nil,List.append_nil];rfl
theorem wop{v:Int}(h:0<=v/\v<=255):i64.wrap v=v:=ep oM oM
theorem P179{F:Nat}(hF:F=9223372036854775808):∀(n:Nat)(e:ae),(exC n).ok e->Pt ((exC n).enc e) (λl=>f179 n l e)
 |0,e,h=>h.elim
 |n+1,e,h=>by
  obtain⟨⟨h1,h2,h3⟩,h4,h5⟩:=h;intro l hl;show f179s (f179 n) l e=_;have hL:Pt (e.l.flatMap (exC n).enc++ []) (f179s_l1 (f179 n) l e F 0):=dE h4 Pt.some (λn' lw=>by rw[f179s_l1,gtn,cdF]) (λn' i hi w hw l hl=>by
   rw[f179s_l1,glt hi,cdT,dh hi,bnS,gw1 hi h4];exact((P179 hF n _ (h5 _ (List.getElem_mem hi))).bind hw) l hl) hF
  have C:=(d9 [e.kind,e.op] sM).bind ((jg e.n).bind ((d9 [e.o,e.off,e.len] sM).bind ((jg e.lo).bind ((jg e.hi).bind ((d9 [(List.length e.l:Int)] sM).bind hL)))));have hE:[e.kind,e.op].flatMap e8++(e8 e.n++([e.o,e.off,e.len].flatMap e8++(e8 e.lo++(e8 e.hi++([(List.length e.l:Int)].flatMap e8++(e.l.flatMap (exC n).enc++ []))))))=(exC (n+1)).enc e:=by simp only[List.flatMap_cons,List.flatMap_nil,List.append_nil,List.append_assoc];simp only[exC,Cod.two,pr,liC,Cod.list,cN,aY,List.append_assoc]
  rw[hE] at C;unfold f179s;rw[wop h1,wop h2,<-hF];exact C l hl
section
variable{t:aC}{F:Nat}(hF:F=9223372036854775808)
include hF
theorem q1(h:t.insns.length<9223372036854775808/\∀x∈t.insns,ik.ok x){wK:Bs}{K:Bs->Option Bs}(hK:Pt wK K):Pt (t.insns.flatMap ik.enc++wK) (f144_l1 t K F 0):=
 dE h.1 hK (λn lw=>by rw[f144_l1,gtn,cdF]) (λn i hi w hw l hl=>by
  have ho:=h.2 _ (List.getElem_mem hi);rw[f144_l1,glt hi,cdT,dh hi,bnS,gw1 hi h.1,wop ho.1];refine Pt.eq ((d9 [t.insns[i].op,t.insns[i].d,t.insns[i].a,t.insns[i].b] sM).bind ((jg _).bind ((jg _).bind ((d9 [t.insns[i].to] sM).bind hw)))) ?_ l hl;simp only[List.flatMap_cons,List.flatMap_nil,List.append_nil,List.append_assoc];simp only[ik,Cod.two,pr,cN,aY,List.append_assoc]) hF
theorem q2(h:t.handlers.length<9223372036854775808){wK:Bs}{K:Bs->Option Bs}(hK:Pt wK K):Pt (t.handlers.flatMap iT.enc++wK) (f144_l2 t K F 0):=
 dE h hK (λn lw=>by rw[f144_l2,gtn,cdF]) (λn i hi w hw l hl=>by
  rw[f144_l2,glt hi,cdT,dh hi,bnS,bnS,bnS,gw1 hi h];refine Pt.eq ((d9 [t.handlers[i].from_,t.handlers[i].to,t.handlers[i].at_] sM).bind ((P177 _).bind hw)) ?_ l hl;simp only[List.flatMap_cons,List.flatMap_nil,List.append_nil,List.append_assoc];simp only[iT,Cod.two,pr,aY,List.append_assoc]) hF
theorem q3(h:t.loops.length<9223372036854775808){wK:Bs}{K:Bs->Option Bs}(hK:Pt wK K):Pt (t.loops.flatMap iN.enc++wK) (f144_l3 t K F 0):=
 dE h hK (λn lw=>by rw[f144_l3,gtn,cdF]) (λn i hi w hw l hl=>by
  rw[f144_l3,glt hi,cdT,dh hi,bnS,bnS,gw1 hi h];refine Pt.eq ((d9 [t.loops[i].head,t.loops[i].back] sM).bind ((jg _).bind hw)) ?_ l hl;simp only[List.flatMap_cons,List.flatMap_nil,List.append_nil,List.append_assoc];simp only[iN,Cod.two,pr,aY,List.append_assoc]) hF
theorem q5{x:az}(h:x.alts.length<9223372036854775808/\∀a∈x.alts,ja.ok a){wK:Bs}{K:Bs->Option Bs}(hK:Pt wK K):Pt (x.alts.flatMap ja.enc++wK) (f144_l5 x K F 0):=
 dE h.1 hK (λn lw=>by rw[f144_l5,gtn,cdF]) (λn i hi w hw l hl=>by
  have ho:=h.2 _ (List.getElem_mem hi);rw[f144_l5,glt hi,cdT,dh hi,bnS,gw1 hi h.1,wop ho.1];refine Pt.eq ((d9 [x.alts[i].kind,x.alts[i].entry,x.alts[i].guard,x.alts[i].time,x.alts[i].at_] sM).bind hw) ?_ l hl;simp only[List.flatMap_cons,List.flatMap_nil,List.append_nil,List.append_assoc];simp only[ja,Cod.two,pr,cN,aY,List.append_assoc]) hF
theorem q4(h:t.selects.length<9223372036854775808/\∀x∈t.selects,gP.ok x){wK:Bs}{K:Bs->Option Bs}(hK:Pt wK K):Pt (t.selects.flatMap gP.enc++wK) (f144_l4 t K F 0):=
 dE h.1 hK (λn lw=>by rw[f144_l4,gtn,cdF]) (λn i hi w hw l hl=>by
  have ho:=h.2 _ (List.getElem_mem hi);rw[f144_l4,glt hi,cdT,dn,dh hi,bnS,gw1 hi h.1,<-hF];refine Pt.eq ((d9 [(List.length t.selects[i].alts:Int)] sM).bind (q5 hF ho.1 ((d9 [t.selects[i].obj,t.selects[i].else_] sM).bind hw))) ?_ l hl;simp only[List.flatMap_cons,List.flatMap_nil,List.append_nil,List.append_assoc];simp only[gP,Cod.two,Cod.list,pr,liC,aY,List.append_assoc]) hF
theorem q6(h:t.lists.length<9223372036854775808/\∀x∈t.lists,(liC aY).ok x):Pt (t.lists.flatMap (liC aY).enc) (f144_l6 t F 0):=
 (dE h.1 Pt.some (λn lw=>by rw[f144_l6,gtn,cdF]) (λn i hi w hw l hl=>by
  have ho:=h.2 _ (List.getElem_mem hi);rw[f144_l6,glt hi,cdT,dh hi,bnS,gw1 hi h.1];exact((wu _ ho.1).bind hw) l hl) hF).eq (List.append_nil _)
theorem p7(h:t.checks.length<9223372036854775808/\∀x∈t.checks,gQ.ok x):Pt (t.checks.flatMap gQ.enc) (f145_l7 t F 0):=
 (dE h.1 Pt.some (λn lw=>by rw[f145_l7,gtn,cdF]) (λn i hi w hw l hl=>by
  have ho:=h.2 _ (List.getElem_mem hi);rw[f145_l7,glt hi,cdT,dh hi,bnS,bnS,gw1 hi h.1,wop ho.2];refine Pt.eq ((d9 [t.checks[i].at_,t.checks[i].kind] sM).bind hw) ?_ l hl;simp only[List.flatMap_cons,List.flatMap_nil,List.append_nil,List.append_assoc];simp only[gQ,Cod.two,pr,cN,aY,List.append_assoc]) hF).eq (List.append_nil _)
theorem p6{u:Nat}(hu:u<t.prots.length)(h:t.prots[u].barriers.length<9223372036854775808/\∀e∈t.prots[u].barriers,(exC F).ok e){wK:Bs}{K:Bs->Option Bs}(hK:Pt wK K):Pt (t.prots[u].barriers.flatMap (exC F).enc++wK) (f145_l6 t (u:Int) K F 0):=
 dE h.1 hK (λn lw=>by rw[f145_l6,dh hu,bnS,gtn,cdF]) (λn i hi w hw l hl=>by
  rw[f145_l6,<-hF,dh hu,bnS,glt hi,cdT,bnS,dh hi,bnS,gw1 hi h.1];exact((P179 hF F _ (h.2 _ (List.getElem_mem hi))).bind hw) l hl) hF
theorem p5(h:t.prots.length<9223372036854775808/\∀x∈t.prots,(ib F).ok x){wK:Bs}{K:Bs->Option Bs}(hK:Pt wK K):Pt (t.prots.flatMap (ib F).enc++wK) (f145_l5 t K F 0):=
 dE h.1 hK (λn lw=>by rw[f145_l5,gtn,cdF]) (λn i hi w hw l hl=>by
  have ho:=h.2 _ (List.getElem_mem hi);rw[f145_l5,glt hi,cdT,dn,dh hi,bnS,bnS,gw1 hi h.1,<-hF];refine Pt.eq ((d9 [t.prots[i].ceiling,(List.length t.prots[i].barriers:Int)] sM).bind (p6 hF hi ho.2 hw)) ?_ l hl;simp only[List.flatMap_cons,List.flatMap_nil,List.append_nil,List.append_assoc];simp only[ib,Cod.two,Cod.list,pr,liC,aY,List.append_assoc]) hF
theorem p4{x:aK}(h:x.entries.length<9223372036854775808/\∀e∈x.entries,jC.ok e){wK:Bs}{K:Bs->Option Bs}(hK:Pt wK K):Pt (x.entries.flatMap jC.enc++wK) (f145_l4 x K F 0):=
 dE h.1 hK (λn lw=>by rw[f145_l4,gtn,cdF]) (λn i hi w hw l hl=>by
  have ho:=h.2 _ (List.getElem_mem hi);rw[f145_l4,glt hi,cdT,dh hi,bnS,gw1 hi h.1];simp only[bnS];refine Pt.eq ((wu x.entries[i].ins ho.1.1).bind ((wu x.entries[i].outs ho.2.1).bind hw)) ?_ l hl;simp only[jC,Cod.two,List.append_assoc]) hF
theorem p3(h:t.tasks.length<9223372036854775808/\∀x∈t.tasks,gg.ok x){wK:Bs}{K:Bs->Option Bs}(hK:Pt wK K):Pt (t.tasks.flatMap gg.enc++wK) (f145_l3 t K F 0):=
 dE h.1 hK (λn lw=>by rw[f145_l3,gtn,cdF]) (λn i hi w hw l hl=>by
  have ho:=h.2 _ (List.getElem_mem hi);rw[f145_l3,glt hi,cdT,dn,dh hi,bnS,gw1 hi h.1,<-hF];refine Pt.eq ((d9 [t.tasks[i].prio,t.tasks[i].at_,(List.length t.tasks[i].entries:Int)] sM).bind (p4 hF ho.2.2.1 ((jg t.tasks[i].deadline).bind hw))) ?_ l hl;simp only[List.flatMap_cons,List.flatMap_nil,List.append_nil,List.append_assoc];simp only[gg,Cod.two,Cod.list,pr,liC,aY,List.append_assoc]) hF
theorem p2(h:t.inits.length<9223372036854775808){wK:Bs}{K:Bs->Option Bs}(hK:Pt wK K):Pt (t.inits.flatMap im.enc++wK) (f145_l2 t K F 0):=
 dE h hK (λn lw=>by rw[f145_l2,gtn,cdF]) (λn i hi w hw l hl=>by
  rw[f145_l2,glt hi,cdT,dh hi,bnS,bnS,gw1 hi h];refine Pt.eq ((d9 [t.inits[i].o,t.inits[i].slot] sM).bind ((jg _).bind hw)) ?_ l hl;simp only[List.flatMap_cons,List.flatMap_nil,List.append_nil,List.append_assoc];simp only[im,Cod.two,pr,aY,List.append_assoc]) hF
theorem p1(h:t.objs.length<9223372036854775808/\∀x∈t.objs,gq.ok x){wK:Bs}{K:Bs->Option Bs}(hK:Pt wK K):Pt (t.objs.flatMap gq.enc++wK) (f145_l1 t K F 0):=
 dE h.1 hK (λn lw=>by rw[f145_l1,gtn,cdF]) (λn i hi w hw l hl=>by
  have ho:=h.2 _ (List.getElem_mem hi);rw[f145_l1,glt hi,cdT,dh hi,bnS,gw1 hi h.1];refine Pt.eq ((d9 [t.objs[i].size] sM).bind ((jg _).bind ((jg _).bind ((P177 _).bind ((wu _ ho.2.2.2.2.1).bind hw))))) ?_ l hl;simp only[List.flatMap_cons,List.flatMap_nil,List.append_nil,List.append_assoc];simp only[gq,Cod.two,Cod.list,pr,liC,aY,List.append_assoc]) hF
end
theorem f58_eq{F:Nat}(hF:F=9223372036854775808){t:aC}(h:(cA F).ok t)(hl:((cA F).enc t).length<=900000000):f58 t=some (e8 958023++(cA F).enc t):=by
 obtain⟨⟨h1,h2,h3,h4,h5⟩,h6,h7,h8,h9,h10,h11⟩:=h;have A:Pt _ (λl=>f144 l t):=λl hl=>by
  unfold f144;rw[<-hF];exact((d9 [(List.length t.insns:Int)] sM).bind (q1 hF h1 ((d9 [(List.length t.handlers:Int)] sM).bind (q2 hF h2.1 ((d9 [(List.length t.loops:Int)] sM).bind (q3 hF h3.1 ((d9 [(List.length t.selects:Int)] sM).bind (q4 hF h4 ((d9 [(List.length t.lists:Int)] sM).bind (q6 hF h5)))))))))) l hl
 have B:Pt _ (λl=>f145 l t):=λl hl=>by
  unfold f145;rw[<-hF];exact((d9 [(List.length t.objs:Int)] sM).bind (p1 hF h6 ((d9 [(List.length t.inits:Int)] sM).bind (p2 hF h7.1 ((d9 [t.excs,(List.length t.tasks:Int)] sM).bind (p3 hF h9 ((d9 [(List.length t.prots:Int)] sM).bind (p5 hF h10 ((d9 [(List.length t.checks:Int)] sM).bind (p7 hF h11)))))))))) l hl
 have C:=(jg 958023).bind (A.bind (B.bind Pt.some));have hE:=λw (hw:w=e8 958023++(cA F).enc t)=>(show w=e8 958023++(cA F).enc t from hw);have D:=C.eq (hE _ (by
  simp only[List.flatMap_cons,List.flatMap_nil,List.append_nil,List.append_assoc];simp only[cA,mm,nX,Cod.two,Cod.list,pr,liC,aY,List.append_assoc]))
 exact D [] (by rw[List.length_append,bV,List.length_nil];omega)
theorem qP:∀(n i:Nat)(u:Int),i<n->(dig n u)[i]? =some (u / 256^i%256)
 |0,i,u,h=>oM
 |n+1,0,u,h=>by simp[dig]
 |n+1,i+1,u,h=>by
  rw[dig,List.getElem?_cons_succ,qP n i _ oM,Int.ediv_ediv_of_nonneg oM,Int.pow_succ,Int.mul_comm]
theorem vZ(v:Int)(i:Nat)(h:i<8):v%18446744073709551616 / 256^i%256=v / 256^i%256:=by have:i=0\/i=1\/i=2\/i=3\/i=4\/i=5\/i=6\/i=7:=oM;rcases this with rfl|rfl|rfl|rfl|rfl|rfl|rfl|rfl<;>simp only[Int.reducePow]<;>omega
theorem x115(v:Int)(i:Nat)(h:i<8):IntKind.u8.wrap (Int.fdiv v (2^min (Int.toNat (i64.wrap (8*(i:Int)))) i64.bits))=v / 256^i%256:=by have hb:i64.bits=64:=rfl;have hm:min (Int.toNat (8*(i:Int))) 64=8*i:=oM;rw[ep oM oM,hb,hm,u8w,Int.pow_mul,Int.fdiv_eq_ediv_of_nonneg _ (Int.pow_nonneg dC)];rfl
theorem f115_l(v:Int)(K:Bs->Option Bs):∀(n i:Nat)(lw:Bs),lw.length=8->i<=8->8<n+i->(∀j,j<i->lw[j]? =(e8 v)[j]?)->f115_l1 v K n (i:Int) lw=K (e8 v)
 |0,i,lw,_,_,h,_=>oM
 |n+1,i,lw,hl,hi,hn,hp=>by
  rw[f115_l1];have e0:((List.length (List.replicate (Int.toNat 8) (0:Int))):Int)=((8:Nat):Int):=rfl;rw[e0];by_cases hlt:i<8;rw[glt hlt,cdT,fu _ (show shc (i64.wrap (8*(i:Int)))=true by rw[ep oM oM];exact dcT oM),dh oM,bnS,x115 v i hlt,ep oM oM];refine f115_l v K n (i+1) _ (by simpa using hl) oM oM λj hj=>?_;rw[Int.toNat_natCast,List.getElem?_set];by_cases hji:i=j;subst hji;rw[if_pos rfl,if_pos oM];unfold e8;rw[qP _ _ _ hlt,vZ v i hlt];rw[if_neg hji];exact hp j oM;have:i=8:=oM;subst this;rw[oy oM,cdF];congr 1;refine List.ext_getElem? λj=>?_;by_cases hj:j<8;exact hp j hj;rw[List.getElem?_eq_none oM,List.getElem?_eq_none (by rw[bV];omega)]
theorem f115_eq(v:Int):f115 v=some (e8 v):=by unfold f115;rw[dn];exact f115_l v some 9 0 (List.replicate 8 0) rfl oM oM (λj h=>oM)
def Wp(w:Bs)(o:Bool->Bs->Option (Bool×Bs)):Prop:=∀l:Bs,l.length+w.length<=1000000000->o false l=some (false,l++w)
theorem Wp.bind{a b:Bs}{f:Bool->Bs->Option (Bool×Bs)}{g:Bool×Bs->Option (Bool×Bs)}(h1:Wp a f)(h2:Wp b (λx l=>g (x,l))):Wp (a++b) (λx l=>Option.bind (f x l) g):=λl hl=>by
 rw[List.length_append] at hl;show Option.bind (f false l) g=_;rw[h1 l oM,bnS];have:=h2 (l++a) (by rw[List.length_append];omega);rw[List.append_assoc] at this;exact this
theorem Wp.to{a b:Bs}{f:Bool->Bs->Option (Bool×Bs)}(h:Wp a f)(e:a=b):Wp b f:=e▸h
theorem Wp.some:Wp [] (λx l=>some (x,l)):=λl _=>by rw[List.append_nil]
theorem mE(v:Int):Wp (e8 v) (λx l=>f53b x l v):=λl hl=>by
 show f53b false l v=_;unfold f53b;rw[f115_eq,bnS,fu _ (uS dC hl)]
theorem w53(v:Int):Wp (e8 v) (λx l=>f53p x l v):=λl hl=>by
 show f53p false l v=_;unfold f53p;rw[f115_eq,bnS,fu _ (uS dC hl)]
theorem Wp.loop{α:Type}{L:List α}{enc:α->Bs}{one:α->Bool->Bs->Option (Bool×Bs)}{wK:Bs}{K:Bs->Bool->Option (Bool×Bs)}{F:Nat->Int->Bs->Bool->Option (Bool×Bs)}(h:∀x∈L,Wp (enc x) (one x))(hK:Wp wK λx l=>K l x)
  (hF:∀n i lw,F (n+1) i lw false=bif decide (i<(L.length:Int)) then Option.bind (idx L i) (λx=>Option.bind (one x false lw) λr=>F n (i64.wrap (i+1)) r.2 r.1) else K lw false)(hL:L.length<9223372036854775808):
  ∀(n i:Nat),i<=L.length->L.length<n+i->Wp ((L.drop i).flatMap enc++wK) (λx l=>F n (i:Int) l x)
 |0,i,_,h=>oM
 |n+1,i,hi,hn=>λl hl=>by
  show F (n+1) (i:Int) l false=_;rw[hF];by_cases hlt:i<L.length;rw[List.drop_eq_getElem_cons hlt,List.flatMap_cons,List.append_assoc] at hl⊢;rw[List.length_append] at hl;rw[glt hlt,cdT,dh hlt,bnS,h _ (List.getElem_mem hlt) l oM,bnS,ep oM oM];have:=Wp.loop h hK hF hL n (i+1) oM oM (l++enc L[i]) (by rw[List.length_append];omega);rw[List.append_assoc] at this;exact this;have:i=L.length:=oM;subst this;rw[List.drop_length,List.flatMap_nil,List.nil_append] at hl⊢;rw[oy hlt,cdF];exact hK l hl
theorem Wp.list{α:Type}{L:List α}{c:Cod α}{one:α->Bool->Bs->Option (Bool×Bs)}{wK:Bs}{K:Bs->Bool->Option (Bool×Bs)}{F:Nat->Int->Bs->Bool->Option (Bool×Bs)}(hL:L.length<9223372036854775808/\∀x∈L,c.ok x)(h:∀x,c.ok x->Wp (c.enc x) (one x))(hK:Wp wK λx l=>K l x)
  (hF:∀n i lw,F (n+1) i lw false=bif decide (i<(L.length:Int)) then Option.bind (idx L i) (λx=>Option.bind (one x false lw) λr=>F n (i64.wrap (i+1)) r.2 r.1) else K lw false):
  Wp ((liC c).enc L++wK) (λx l=>Option.bind (f53b x l (L.length:Int)) λr=>F (Int.toNat ((L.length:Int) - 0)+1) 0 r.2 r.1):=
 Wp.to (Wp.bind (mE _) (Wp.loop (enc:=c.enc) (λx hx=>h x (hL.2 x hx)) hK hF hL.1 (L.length+1) 0 oM oM)) (by
  show _=e8 (L.length:Int)++L.flatMap c.enc++wK;rw[List.drop_zero,List.append_assoc])
set_option maxHeartbeats 2000000
theorem f131p_l(L:List Int)(hL:L.length<100):∀(n i:Nat),i<=L.length->L.length<n+i->Wp ((L.drop i).flatMap e8) (λx l=>f131p_l1 (L.map some) n (i:Int) l x)
 |0,i,_,h=>oM
 |n+1,i,hi,hn=>λl hl=>by
  show f131p_l1 (L.map some) (n+1) (i:Int) l false=_;rw[f131p_l1];by_cases hlt:i<L.length;rw[List.drop_eq_getElem_cons hlt,List.flatMap_cons] at hl⊢;rw[List.length_append] at hl;rw[glt (by rw[List.length_map];exact hlt),cdT,dn,dh (by rw[List.length_map];exact hlt),List.getElem_map];simp only[bnS];have hb:f53b false l L[i]=some (false,l++e8 L[i]):=mE L[i] l oM;rw[hb,bnS,fu _ (beq_self_eq_true _)];simp only[decide_true,Bool.not_true,cdF];rw[ep oM oM];have:=f131p_l L hL n (i+1) oM oM (l++e8 L[i]) (by rw[List.length_append];omega);rw[List.append_assoc] at this;exact this;have:i=L.length:=oM;subst this;rw[List.drop_length,List.flatMap_nil,List.append_nil,oy (by rw[List.length_map];exact hlt),cdF]
theorem f131p_w(L:List Int)(hL:L.length<100):Wp (L.flatMap e8) (λx l=>f131p x l (L.map some)):=by have:=f131p_l L hL (L.length+1) 0 oM oM;rw[List.drop_zero] at this;unfold f131p;rw[List.length_map];exact this
theorem f164p_l(L:List Int)(hL:L.length<100)(hu:∀x∈L,cN.ok x):∀(n i:Nat),i<=L.length->L.length<n+i->Wp ((L.drop i).flatMap e8) (λx l=>f164p_l1 (L.map some) n (i:Int) l x)
 |0,i,_,h=>oM
 |n+1,i,hi,hn=>λl hl=>by
  show f164p_l1 (L.map some) (n+1) (i:Int) l false=_;rw[f164p_l1];by_cases hlt:i<L.length;rw[List.drop_eq_getElem_cons hlt,List.flatMap_cons] at hl⊢;rw[List.length_append] at hl;rw[glt (by rw[List.length_map];exact hlt),cdT,dn,dh (by rw[List.length_map];exact hlt),List.getElem_map];simp only[bnS];have hx:0<=L[i]/\L[i]<=255:=hu _ (List.getElem_mem hlt);rw[ep (x:=L[i]) oM oM,show IntKind.u8.wrap L[i]=L[i] by rw[u8w];omega];have hb:f53b false l L[i]=some (false,l++e8 L[i]):=mE L[i] l oM;rw[hb,bnS,fu _ (beq_self_eq_true _)];simp only[decide_true,Bool.not_true,cdF];rw[ep oM oM];have:=f164p_l L hL hu n (i+1) oM oM (l++e8 L[i]) (by rw[List.length_append];omega);rw[List.append_assoc] at this;exact this;have:i=L.length:=oM;subst this;rw[List.drop_length,List.flatMap_nil,List.append_nil,oy (by rw[List.length_map];exact hlt),cdF]
theorem f164p_w(L:List Int)(hL:L.length<100)(hu:∀x∈L,cN.ok x):Wp (L.flatMap e8) (λx l=>f164p x l (L.map some)):=by have:=f164p_l L hL hu (L.length+1) 0 oM oM;rw[List.drop_zero] at this;unfold f164p;rw[List.length_map];exact this
theorem f191p_l(L:List Int)(hL:L.length<100)(hu:∀x∈L,cN.ok x):∀(n i:Nat),i<=L.length->L.length<n+i->Wp ((L.drop i).flatMap e8) (λx l=>f191p_l1 (L.map some) n (i:Int) l x)
 |0,i,_,h=>oM
 |n+1,i,hi,hn=>λl hl=>by
  show f191p_l1 (L.map some) (n+1) (i:Int) l false=_;rw[f191p_l1];by_cases hlt:i<L.length;rw[List.drop_eq_getElem_cons hlt,List.flatMap_cons] at hl⊢;rw[List.length_append] at hl;rw[glt (by rw[List.length_map];exact hlt),cdT,dn,dh (by rw[List.length_map];exact hlt),List.getElem_map];simp only[bnS];have hx:0<=L[i]/\L[i]<=255:=hu _ (List.getElem_mem hlt);rw[ep (x:=L[i]) oM oM,show IntKind.u8.wrap L[i]=L[i] by rw[u8w];omega];have hb:f53b false l L[i]=some (false,l++e8 L[i]):=mE L[i] l oM;rw[hb,bnS,fu _ (beq_self_eq_true _)];simp only[decide_true,Bool.not_true,cdF];rw[ep oM oM];have:=f191p_l L hL hu n (i+1) oM oM (l++e8 L[i]) (by rw[List.length_append];omega);rw[List.append_assoc] at this;exact this;have:i=L.length:=oM;subst this;rw[List.drop_length,List.flatMap_nil,List.append_nil,oy (by rw[List.length_map];exact hlt),cdF]
theorem f191p_w(L:List Int)(hL:L.length<100)(hu:∀x∈L,cN.ok x):Wp (L.flatMap e8) (λx l=>f191p x l (L.map some)):=by have:=f191p_l L hL hu (L.length+1) 0 oM oM;rw[List.drop_zero] at this;unfold f191p;rw[List.length_map];exact this
theorem f192p_l(L:List Int)(hL:L.length<100)(hu:∀x∈L,cN.ok x):∀(n i:Nat),i<=L.length->L.length<n+i->Wp ((L.drop i).flatMap e8) (λx l=>f192p_l1 (L.map some) n (i:Int) l x)
 |0,i,_,h=>oM
 |n+1,i,hi,hn=>λl hl=>by
  show f192p_l1 (L.map some) (n+1) (i:Int) l false=_;rw[f192p_l1];by_cases hlt:i<L.length;rw[List.drop_eq_getElem_cons hlt,List.flatMap_cons] at hl⊢;rw[List.length_append] at hl;rw[glt (by rw[List.length_map];exact hlt),cdT,dn,dh (by rw[List.length_map];exact hlt),List.getElem_map];simp only[bnS];have hx:0<=L[i]/\L[i]<=255:=hu _ (List.getElem_mem hlt);rw[ep (x:=L[i]) oM oM,show IntKind.u8.wrap L[i]=L[i] by rw[u8w];omega];have hb:f53b false l L[i]=some (false,l++e8 L[i]):=mE L[i] l oM;rw[hb,bnS,fu _ (beq_self_eq_true _)];simp only[decide_true,Bool.not_true,cdF];rw[ep oM oM];have:=f192p_l L hL hu n (i+1) oM oM (l++e8 L[i]) (by rw[List.length_append];omega);rw[List.append_assoc] at this;exact this;have:i=L.length:=oM;subst this;rw[List.drop_length,List.flatMap_nil,List.append_nil,oy (by rw[List.length_map];exact hlt),cdF]
theorem f192p_w(L:List Int)(hL:L.length<100)(hu:∀x∈L,cN.ok x):Wp (L.flatMap e8) (λx l=>f192p x l (L.map some)):=by have:=f192p_l L hL hu (L.length+1) 0 oM oM;rw[List.drop_zero] at this;unfold f192p;rw[List.length_map];exact this
theorem f193p_l(L:List Int)(hL:L.length<100)(hu:∀x∈L,cN.ok x):∀(n i:Nat),i<=L.length->L.length<n+i->Wp ((L.drop i).flatMap e8) (λx l=>f193p_l1 (L.map some) n (i:Int) l x)
 |0,i,_,h=>oM
 |n+1,i,hi,hn=>λl hl=>by
  show f193p_l1 (L.map some) (n+1) (i:Int) l false=_;rw[f193p_l1];by_cases hlt:i<L.length;rw[List.drop_eq_getElem_cons hlt,List.flatMap_cons] at hl⊢;rw[List.length_append] at hl;rw[glt (by rw[List.length_map];exact hlt),cdT,dn,dh (by rw[List.length_map];exact hlt),List.getElem_map];simp only[bnS];have hx:0<=L[i]/\L[i]<=255:=hu _ (List.getElem_mem hlt);rw[ep (x:=L[i]) oM oM,show IntKind.u8.wrap L[i]=L[i] by rw[u8w];omega];have hb:f53b false l L[i]=some (false,l++e8 L[i]):=mE L[i] l oM;rw[hb,bnS,fu _ (beq_self_eq_true _)];simp only[decide_true,Bool.not_true,cdF];rw[ep oM oM];have:=f193p_l L hL hu n (i+1) oM oM (l++e8 L[i]) (by rw[List.length_append];omega);rw[List.append_assoc] at this;exact this;have:i=L.length:=oM;subst this;rw[List.drop_length,List.flatMap_nil,List.append_nil,oy (by rw[List.length_map];exact hlt),cdF]
theorem f193p_w(L:List Int)(hL:L.length<100)(hu:∀x∈L,cN.ok x):Wp (L.flatMap e8) (λx l=>f193p x l (L.map some)):=by have:=f193p_l L hL hu (L.length+1) 0 oM oM;rw[List.drop_zero] at this;unfold f193p;rw[List.length_map];exact this
theorem f174p_l(L:List Int)(hL:L.length<100)(hu:∀x∈L,cN.ok x):∀(n i:Nat),i<=L.length->L.length<n+i->Wp ((L.drop i).flatMap e8) (λx l=>f174p_l1 (L.map some) n (i:Int) l x)
 |0,i,_,h=>oM
 |n+1,i,hi,hn=>λl hl=>by
  show f174p_l1 (L.map some) (n+1) (i:Int) l false=_;rw[f174p_l1];by_cases hlt:i<L.length;rw[List.drop_eq_getElem_cons hlt,List.flatMap_cons] at hl⊢;rw[List.length_append] at hl;rw[glt (by rw[List.length_map];exact hlt),cdT,dn,dh (by rw[List.length_map];exact hlt),List.getElem_map];simp only[bnS];have hx:0<=L[i]/\L[i]<=255:=hu _ (List.getElem_mem hlt);rw[ep (x:=L[i]) oM oM,show IntKind.u8.wrap L[i]=L[i] by rw[u8w];omega];have hb:f53b false l L[i]=some (false,l++e8 L[i]):=mE L[i] l oM;rw[hb,bnS,fu _ (beq_self_eq_true _)];simp only[decide_true,Bool.not_true,cdF];rw[ep oM oM];have:=f174p_l L hL hu n (i+1) oM oM (l++e8 L[i]) (by rw[List.length_append];omega);rw[List.append_assoc] at this;exact this;have:i=L.length:=oM;subst this;rw[List.drop_length,List.flatMap_nil,List.append_nil,oy (by rw[List.length_map];exact hlt),cdF]
theorem f174p_w(L:List Int)(hL:L.length<100)(hu:∀x∈L,cN.ok x):Wp (L.flatMap e8) (λx l=>f174p x l (L.map some)):=by have:=f174p_l L hL hu (L.length+1) 0 oM oM;rw[List.drop_zero] at this;unfold f174p;rw[List.length_map];exact this
theorem f165p_w(b:Bool):Wp (nl.enc b) (λx l=>f165p x l b):=λl hl=>by
 show f165p false l b=_;unfold f165p;rw[dn];have hb:∀v,l.length+(e8 v).length<=1000000000->f53b false l v=some (false,l++e8 v):=λv=>mE v l;cases b;rw[cdF];dsimp only;rw[hb 0 hl];rfl;rw[cdT];dsimp only;rw[hb 1 hl];rfl
theorem f169p_w(a:Int):Wp (e8 a) (λx l=>f169p x l a):=Wp.to (Wp.bind (f131p_w [a] (nbT rfl)) Wp.some) sM
theorem f118p_w(x:aJ)(h:ik.ok x):Wp (ik.enc x) (λy l=>f118p y l x):=by unfold f118p;exact Wp.to (Wp.bind (f164p_w [x.op] (nbT rfl) (by simpa using h.1)) (Wp.bind (f131p_w [x.d,x.a,x.b] (nbT rfl)) (Wp.bind (w53 x.n) (Wp.bind (w53 x.m) (Wp.bind (f131p_w [x.to] (nbT rfl)) Wp.some))))) (by simp[ik,Cod.two,aY,cN])
theorem f120p_w(x:ak)(_:iT.ok x):Wp (iT.enc x) (λy l=>f120p y l x):=by unfold f120p;exact Wp.to (Wp.bind (f131p_w [x.from_,x.to,x.at_] (nbT rfl)) (Wp.bind (f165p_w x.clean) Wp.some)) (by simp[iT,Cod.two,aY])
theorem f122p_w(x:Loop)(_:iN.ok x):Wp (iN.enc x) (λy l=>f122p y l x):=by unfold f122p;exact Wp.to (Wp.bind (f131p_w [x.head,x.back] (nbT rfl)) (Wp.bind (w53 x.bound) Wp.some)) (by simp[iN,Cod.two,aY])
theorem f167p_w(x:be)(h:ja.ok x):Wp (ja.enc x) (λy l=>f167p y l x):=by unfold f167p;exact Wp.to (Wp.bind (f191p_w [x.kind] (nbT rfl) (by simpa using h.1)) (Wp.bind (f131p_w [x.entry,x.guard,x.time,x.at_] (nbT rfl)) Wp.some)) (by simp[ja,Cod.two,aY,cN])
theorem f130p_w(x:bq)(_:im.ok x):Wp (im.enc x) (λy l=>f130p y l x):=by unfold f130p;exact Wp.to (Wp.bind (f131p_w [x.o,x.slot] (nbT rfl)) (Wp.bind (w53 x.v) Wp.some)) (by simp[im,Cod.two,aY])
theorem f137p_w(x:bf)(h:gQ.ok x):Wp (gQ.enc x) (λy l=>f137p y l x):=by unfold f137p;exact Wp.to (Wp.bind (f131p_w [x.at_] (nbT rfl)) (Wp.bind (f174p_w [x.kind] (nbT rfl) (by simpa using h.2)) Wp.some)) (by simp[gQ,Cod.two,aY,cN])
theorem f126p_w(L:List Int)(h:(liC aY).ok L):Wp ((liC aY).enc L) (λy l=>f126p y l L):=by unfold f126p;exact Wp.to (Wp.list h (λx _=>f169p_w x) Wp.some (F:=f126p_l1 L _) λ_ _ _=>rfl) sM
theorem f124p_w(x:az)(h:gP.ok x):Wp (gP.enc x) (λy l=>f124p y l x):=by unfold f124p;exact Wp.to (Wp.list h.1 f167p_w (Wp.bind (f131p_w [x.obj,x.else_] (nbT rfl)) Wp.some) (F:=f124p_l1 x _) λ_ _ _=>rfl) (by simp[gP,Cod.two,aY])
theorem f128p_w(x:Obj)(h:gq.ok x):Wp (gq.enc x) (λy l=>f128p y l x):=by unfold f128p;exact Wp.to (Wp.bind (f131p_w [x.size] (nbT rfl)) (Wp.bind (w53 x.lo) (Wp.bind (w53 x.hi) (Wp.bind (f165p_w x.ptr) (Wp.bind (f126p_w x.set_ h.2.2.2.2) Wp.some))))) (by simp[gq,Cod.two,aY])
theorem f171p_w(x:aB)(h:jC.ok x):Wp (jC.enc x) (λy l=>f171p y l x):=by unfold f171p;exact Wp.to (Wp.bind (f126p_w x.ins h.1) (Wp.bind (f126p_w x.outs h.2) Wp.some)) (by simp[jC,Cod.two])
theorem f133p_w(x:aK)(h:gg.ok x):Wp (gg.enc x) (λy l=>f133p y l x):=by unfold f133p;exact Wp.to (Wp.bind (f131p_w [x.prio,x.at_] (nbT rfl)) (Wp.list h.2.2.1 f171p_w (Wp.bind (w53 x.deadline) Wp.some) (F:=f133p_l1 x _) λ_ _ _=>rfl)) (by simp[gg,Cod.two,aY])
def f173pt(rec173:Bool->(List Int)->ae->Option (Bool×(List Int)))(bad:Bool)(l:List Int)(x1:ae):Option (Bool×(List Int)):=
 Option.bind (f192p bad l [(some x1.kind)]) λr53=>
 Option.bind (f193p r53.1 r53.2 [(some x1.op)]) λr55=>
 Option.bind (f53p r55.1 r55.2 x1.n) λr57=>
 Option.bind (f131p r57.1 r57.2 [(some x1.o),(some x1.off),(some x1.len)]) λr59=>
 Option.bind (f53p r59.1 r59.2 x1.lo) λr61=>
 Option.bind (f53p r61.1 r61.2 x1.hi) λr63=>
 aq (λ(lw66:List Int)(c02v68:Bool)=>
 some (c02v68,lw66)) λk69=>
 Option.bind (f53b r63.1 r63.2 (List.length x1.l:Int)) λr70=>
 (f173ps_l1 rec173 [] x1 k69 (Int.toNat ((List.length x1.l:Int) - 0)+1) 0 r70.2 r70.1)
theorem f173ps_l1_l(rec:Bool->Bs->ae->Option (Bool×Bs))(l:Bs)(x:ae):f173ps_l1 rec l x=f173ps_l1 rec [] x:=by
 funext k n;induction n with
 |zero=>rfl
 |succ n ih=>funext i lw b;rw[f173ps_l1,f173ps_l1,ih]
theorem f173pt_eq(rec:Bool->Bs->ae->Option (Bool×Bs))(y:Bool)(l:Bs)(x:ae):f173ps rec y l x=f173pt rec y l x:=by unfold f173ps f173pt;rw[f173ps_l1_l rec l x]
theorem f173p_w:∀(n:Nat)(x:ae),(exC n).ok x->Wp ((exC n).enc x) (λy l=>f173p n y l x)
 |0,x,h=>h.elim
 |n+1,x,h=>by
  have e:(λy l=>f173p (n+1) y l x)=λy l=>f173pt (f173p n) y l x:=by funext y l;exact f173pt_eq _ _ _ _
  rw[e];unfold f173pt;exact Wp.to (Wp.bind (f192p_w [x.kind] (nbT rfl) (by simpa using h.1.1)) (Wp.bind (f193p_w [x.op] (nbT rfl) (by simpa using h.1.2.1)) (Wp.bind (w53 x.n) (Wp.bind (f131p_w [x.o,x.off,x.len] (nbT rfl)) (Wp.bind (w53 x.lo) (Wp.bind (w53 x.hi) (Wp.list h.2 (f173p_w n) Wp.some (F:=f173ps_l1 (f173p n) [] x _) λ_ _ _=>rfl))))))) (by simp[exC,Cod.two,aY,cN])
section
variable{F:Nat}(hF:9223372036854775808=F)
include hF
theorem f135p_w(x:aT)(h:(ib F).ok x):Wp ((ib F).enc x) (λy l=>f135p y l x):=by unfold f135p;exact Wp.to (Wp.bind (f131p_w [x.ceiling] (nbT rfl)) (Wp.list (one:=λe b l=>f173p 9223372036854775808 b l e) h.2 (λe he=>by rw[hF];exact f173p_w F e he) Wp.some (F:=f135p_l1 x _) λ_ _ _=>rfl)) (by simp[ib,Cod.two,aY])
theorem f54p_w(t:aC)(h:(cA F).ok t):Wp ((cA F).enc t) (λy l=>f54p y l t):=by unfold f54p;obtain⟨⟨h1,h2,h3,h4,h5⟩,h6,h7,h8,h9,h10,h11⟩:=h;exact Wp.to (Wp.list h1 f118p_w (Wp.list h2 f120p_w (Wp.list h3 f122p_w (Wp.list h4 f124p_w (Wp.list h5 f126p_w (Wp.list h6 f128p_w (Wp.list h7 f130p_w (Wp.bind (f131p_w [t.excs] (nbT rfl)) (Wp.list h9 f133p_w (Wp.list h10 (f135p_w hF) (Wp.list h11 f137p_w Wp.some (F:=f54p_l10 t _) λ_ _ _=>rfl) (F:=f54p_l9 t _) λ_ _ _=>rfl) (F:=f54p_l8 t _) λ_ _ _=>rfl)) (F:=f54p_l7 t _) λ_ _ _=>rfl) (F:=f54p_l6 t _) λ_ _ _=>rfl) (F:=f54p_l5 t _) λ_ _ _=>rfl) (F:=f54p_l4 t _) λ_ _ _=>rfl) (F:=f54p_l3 t _) λ_ _ _=>rfl) (F:=f54p_l2 t _) λ_ _ _=>rfl) (F:=f54p_l1 t _) λ_ _ _=>rfl) (by simp[cA,Cod.two,aY])
end
theorem w64{x:Int}(h1: -9223372036854775808<=x)(h2:x<=9223372036854775807):i64.wrap x=x:=by rw[IntKind.wrap_i64];omega
theorem bo{α β:Sort _}(k:α)(f:α->β):aq k f=f k:=rfl
theorem bJ{α:Type}{L:List α}{i:Nat}(h:i<L.length):idx L (i:Int)=some L[i]:=by unfold idx;rw[dcT (Int.natCast_nonneg i)];simp[h]
theorem fO{α:Type}{L:List α}{i:Int}(h:¬(0<=i/\i<L.length)):idx L i=none:=by grind [idx]
theorem kT{α:Type}{L:List α}{i:Int}{x:α}(h:idx L i=some x):0<=i/\i<L.length:=⟨aL h,mW h⟩
theorem cS{α:Type}{L:List α}{i:Int}(h:0<=i/\i<L.length):∃x,idx L i=some x/\x∈L:=by obtain⟨n,rfl⟩:=Int.eq_ofNat_of_zero_le h.1;exact⟨_,bJ (show n<L.length by omega),List.getElem_mem _⟩
theorem qD{α:Type}{L:List α}{i:Int}{x:α}(h:idx L i=some x):x∈L:=List.mem_of_getElem? (eZ h)
theorem bE{α:Type}{L:List α}{i:Nat}(h:i<L.length):L.drop i=L[i]::L.drop (i+1):=List.drop_eq_getElem_cons h
theorem ox{α:Type}{c:Bool}(o:Option α)(h:c=true):aS c o=o:=by rw[h];rfl
theorem rK{κ α:Type}[DecidableEq κ](m:List (κ×α))(k:κ)(v:α)(x:κ):dv (cm m k v) x=if k=x then some v else dv m x:=by
 induction m with
 |nil=>simp[cm,dv]
 |cons p r ih=>grind [cm,dv]
def inM{κ:Type}[DecidableEq κ](m:List (κ×Bool))(x:κ):Bool:=Option.getD (dv m x) false
theorem vB{κ:Type}[DecidableEq κ](m:List (κ×Bool))(k x:κ):inM (cm m k true) x=(decide (k=x)||inM m x):=by grind [inM,rK]
theorem f151_l1_eq(L:List aB)(cb:aB->Option Bool)(p:aB->Bool)(hl:L.length<9223372036854775808):∀(n i:Nat)(z:Int),z=(i:Int)->i<=L.length->L.length<n+i->(∀x∈L.drop i,cb x=some (p x))->∃r,f151_l1 L cb (λ_=>some (-1)) n z=some r/\decide (r>=0)=(L.drop i).any p
 |0,i,z,_,_,h,_=>oM
 |n+1,i,z,hz,hi,h,hp=>by
  subst hz;rw[f151_l1];by_cases hh:i<L.length;rw[bE hh] at hp⊢;rw[dcT (by omega:(i:Int)<(L.length:Int)),cdT,bJ hh,bnS,hp _ List.mem_cons_self,bnS,List.any_cons];cases hc:p L[i];rw[cdF,w64 oM oM,Bool.false_or];exact f151_l1_eq L cb p hl n (i+1) _ (by push_cast;rfl) oM oM (λx hx=>hp x (List.mem_cons_of_mem _ hx));grind;rw[dcF (by omega:¬(i:Int)<(L.length:Int)),cdF,List.drop_eq_nil_of_le oM];grind
theorem f151_eq(L:List aB)(cb:aB->Option Bool)(p:aB->Bool)(hl:L.length<9223372036854775808)(hp:∀x∈L,cb x=some (p x)):∃r,f151 L cb=some r/\decide (r>=0)=L.any p:=by unfold f151;exact f151_l1_eq L cb p hl _ 0 0 rfl (Nat.zero_le _) oM hp
theorem f90_eq(L:List aB)(cb:aB->Option Bool)(p:aB->Bool)(hl:L.length<9223372036854775808)(hp:∀x∈L,cb x=some (p x)):f90 L cb=some (L.any p):=by obtain⟨r,h1,h2⟩:=f151_eq L cb p hl hp;grind [f90]
theorem f163_l1_eq(L:List Int)(cb:Int->Option Bool)(p:Int->Bool)(hl:L.length<9223372036854775808):∀(n i:Nat)(z:Int),z=(i:Int)->i<=L.length->L.length<n+i->(∀x∈L.drop i,cb x=some (p x))->∃r,f163_l1 L cb (λ_=>some (-1)) n z=some r/\decide (r>=0)=(L.drop i).any p
 |0,i,z,_,_,h,_=>oM
 |n+1,i,z,hz,hi,h,hp=>by
  subst hz;rw[f163_l1];by_cases hh:i<L.length;rw[bE hh] at hp⊢;rw[dcT (by omega:(i:Int)<(L.length:Int)),cdT,bJ hh,bnS,hp _ List.mem_cons_self,bnS,List.any_cons];cases hc:p L[i];rw[cdF,w64 oM oM,Bool.false_or];exact f163_l1_eq L cb p hl n (i+1) _ (by push_cast;rfl) oM oM (λx hx=>hp x (List.mem_cons_of_mem _ hx));grind;rw[dcF (by omega:¬(i:Int)<(L.length:Int)),cdF,List.drop_eq_nil_of_le oM];grind
theorem f163_eq(L:List Int)(cb:Int->Option Bool)(p:Int->Bool)(hl:L.length<9223372036854775808)(hp:∀x∈L,cb x=some (p x)):∃r,f163 L cb=some r/\decide (r>=0)=L.any p:=by unfold f163;exact f163_l1_eq L cb p hl _ 0 0 rfl (Nat.zero_le _) oM hp
theorem f112_eq(L:List Int)(cb:Int->Option Bool)(p:Int->Bool)(hl:L.length<9223372036854775808)(hp:∀x∈L,cb x=some (p x)):f112 L cb=some (L.any p):=by obtain⟨r,h1,h2⟩:=f163_eq L cb p hl hp;grind [f112]
theorem f98_l1_eq(L:List aJ)(cb:aJ->Option Bool)(p:aJ->Bool)(hl:L.length<9223372036854775808):∀(n i:Nat)(z:Int),z=(i:Int)->i<=L.length->L.length<n+i->(∀x∈L.drop i,cb x=some (p x))->∃r,f98_l1 L cb (λ_=>some (-1)) n z=some r/\decide (r>=0)=(L.drop i).any p
 |0,i,z,_,_,h,_=>oM
 |n+1,i,z,hz,hi,h,hp=>by
  subst hz;rw[f98_l1];by_cases hh:i<L.length;rw[bE hh] at hp⊢;rw[dcT (by omega:(i:Int)<(L.length:Int)),cdT,bJ hh,bnS,hp _ List.mem_cons_self,bnS,List.any_cons];cases hc:p L[i];rw[cdF,w64 oM oM,Bool.false_or];exact f98_l1_eq L cb p hl n (i+1) _ (by push_cast;rfl) oM oM (λx hx=>hp x (List.mem_cons_of_mem _ hx));grind;rw[dcF (by omega:¬(i:Int)<(L.length:Int)),cdF,List.drop_eq_nil_of_le oM];grind
theorem f98_eq(L:List aJ)(cb:aJ->Option Bool)(p:aJ->Bool)(hl:L.length<9223372036854775808)(hp:∀x∈L,cb x=some (p x)):∃r,f98 L cb=some r/\decide (r>=0)=L.any p:=by unfold f98;exact f98_l1_eq L cb p hl _ 0 0 rfl (Nat.zero_le _) oM hp
theorem f35_eq(L:List aJ)(cb:aJ->Option Bool)(p:aJ->Bool)(hl:L.length<9223372036854775808)(hp:∀x∈L,cb x=some (p x)):f35 L cb=some (L.any p):=by obtain⟨r,h1,h2⟩:=f98_eq L cb p hl hp;grind [f35]
def spot(os:List Obj)(o from_ cz:Int):Bool:=match idx os o with
 |some x=>decide (0<=from_)&&decide (from_<=i64.wrap (x.size - cz))
 |none=>false
theorem f89_eq(t:aC)(o f m:Int):f89 ⟨t⟩ o f m=some (spot t.objs o f m):=by unfold f89 spot;by_cases h:0<=o/\o<t.objs.length;obtain⟨x,hx,_⟩:=cS h;grind;grind [fO]
theorem qi{os:List Obj}{o f m:Int}(h:spot os o f m=true):∃x,idx os o=some x/\0<=f/\f<=i64.wrap (x.size - m):=by grind [spot,idx]
def fits(o:Obj)(v:Int):Bool:=bif o.ptr then decide (v=0)||o.set_.any (λn=>f113 n v) else decide (v>=o.lo)&&decide (v<=o.hi)
theorem f45_eq(o:Obj)(v:Int)(hl:o.set_.length<9223372036854775808):f45 o v=some (fits o v):=by grind [f45,fits,f112_eq,f113]
def aim(os:List Obj)(x:Int):Bool:=match idx os x with
 |some y=>decide (y.size=1)&& !y.ptr
 |none=>false
def lY(os:List Obj):Int->List Int->Bool
 |_,[]=>true
 |last,x::r=>decide (last<x)&&aim os x&&lY os x r
def gV(os:List Obj)(o:Obj):Bool:=
 !((decide (o.size<1)||decide (o.size>16384))||decide (o.lo>o.hi))&&bif !o.ptr then decide ((o.set_.length:Int)=0) else lY os (-1) o.set_&&(decide (o.lo=0)&&decide (o.hi=0))
theorem f88_l1_eq(t:aC)(o:Obj)(r:Option Bool)(hl:o.set_.length<9223372036854775808):∀(n i:Nat)(z last:Int),z=(i:Int)->i<=o.set_.length->o.set_.length<n+i->-1<=last->
  f88_l1 ⟨t⟩ o (λ_=>r) n last z=bif lY t.objs last (o.set_.drop i) then r else some false
 |0,i,z,last,_,_,h,_=>oM
 |n+1,i,z,last,hz,hi,h,hla=>by
  subst hz;rw[f88_l1];by_cases hh:i<o.set_.length;rw[bE hh,lY];rw[dcT (by omega:(i:Int)<(o.set_.length:Int)),cdT,bJ hh,bnS];generalize o.set_[i]=x;dsimp only;by_cases h1:last<x;rw[dcT h1,dcF (show¬x<=last by omega),Bool.false_or,Bool.true_and];unfold aim;by_cases h2:x<t.objs.length;obtain⟨y,hy,_⟩:=cS (L:=t.objs) (i:=x) oM;rw[dcF (show¬x>=(t.objs.length:Int) by omega),cdF,hy];simp only[bnS];by_cases h3:y.size=1;rw[dcT h3];cases h4:y.ptr;rw[w64 oM oM];exact f88_l1_eq t o r hl n (i+1) _ x (by push_cast;rfl) oM oM oM;rfl;grind;grind [fO];grind;rw[dcF (by omega:¬(i:Int)<(o.set_.length:Int)),cdF,List.drop_eq_nil_of_le oM];rfl
theorem f88_eq(t:aC)(o:Obj)(hl:o.set_.length<9223372036854775808):f88 ⟨t⟩ o=some (gV t.objs o):=by unfold f88 gV;cases h1:(decide (o.size<1)||decide (o.size>16384))||decide (o.lo>o.hi);rw[cdF,bo,Bool.not_false,Bool.true_and];cases h2:o.ptr;rfl;rw[Bool.not_true,cdF,cdF,f88_l1_eq t o _ hl _ 0 0 (-1) rfl (Nat.zero_le _) oM oM,List.drop_zero];grind;rfl
def pj(n:Int)(L:List Obj):Int:=L.foldl (λn x=>i64.wrap (n+x.size)) n
theorem f27_l1_eq(t:aC)(k:Int->Option Bool)(hl:t.objs.length<9223372036854775808)(hs:∀o∈t.objs,o.set_.length<9223372036854775808):∀(n i:Nat)(z a:Int),z=(i:Int)->i<=t.objs.length->t.objs.length<n+i->
  f27_l1 ⟨t⟩ k n a z=bif (t.objs.drop i).all (gV t.objs) then k (pj a (t.objs.drop i)) else some false
 |0,i,z,a,_,_,h=>oM
 |n+1,i,z,a,hz,hi,h=>by
  subst hz;rw[f27_l1];by_cases hh:i<t.objs.length;rw[bE hh,List.all_cons,dcT (by omega:(i:Int)<(t.objs.length:Int)),cdT,bJ hh,bnS,f88_eq t _ (hs _ (List.getElem_mem _)),bnS,w64 (x:=(i:Int)+1) oM oM];cases hc:gV t.objs t.objs[i];rfl;rw[Bool.not_true,cdF,Bool.true_and,f27_l1_eq t k hl hs n (i+1) _ _ (by push_cast;rfl) oM oM];rfl;rw[dcF (by omega:¬(i:Int)<(t.objs.length:Int)),cdF,List.drop_eq_nil_of_le oM];rfl
def eO(os:List Obj)(x:bq):Bool:=spot os x.o x.slot 1&&(match idx os x.o with|some y=>fits y x.v|none=>false)
def fN(os:List Obj):List ((Int×Int)×Bool)->List bq->Bool
 |_,[]=>true
 |m,x::r=>(!(inM m (x.o,x.slot)))&&eO os x&&fN os (cm m (x.o,x.slot) true) r
theorem f27_l2_eq(t:aC)(r:Option Bool)(hl:t.inits.length<9223372036854775808)(hs:∀o∈t.objs,o.set_.length<9223372036854775808):∀(n i:Nat)(z:Int)(m:List ((Int×Int)×Bool)),z=(i:Int)->i<=t.inits.length->t.inits.length<n+i->
  f27_l2 ⟨t⟩ (λ_=>r) n z m=bif fN t.objs m (t.inits.drop i) then r else some false
 |0,i,z,m,_,_,h=>oM
 |n+1,i,z,m,hz,hi,h=>by
  subst hz;rw[f27_l2];by_cases hh:i<t.inits.length;rw[bE hh,fN,dcT (by omega:(i:Int)<(t.inits.length:Int)),cdT,bJ hh,bnS];generalize t.inits[i]=x;rw[f89_eq,w64 oM oM,f27_l2_eq t r hl hs n (i+1) _ _ (by push_cast;rfl) oM oM];show Option.bind (bif inM m (x.o,x.slot) then _ else _) _=_;cases hm:inM m (x.o,x.slot);unfold eO;cases hsp:spot t.objs x.o x.slot 1;rfl;obtain⟨y,hy,_⟩:=qi hsp;rw[hy];simp only[Bool.not_false,Bool.not_true,bnS,cdF,Bool.true_and];rw[f45_eq _ _ (hs _ (qD hy))];cases fits y x.v<;>rfl;rfl;rw[dcF (by omega:¬(i:Int)<(t.inits.length:Int)),cdF,List.drop_eq_nil_of_le oM];rfl
def kL(t:aC):Bool:= !((decide ((t.objs.length:Int)>4096)||decide (t.excs<4))||decide (t.excs>64))&&(t.objs.all (gV t.objs)&&(fN t.objs [] t.inits&&decide (pj 0 t.objs<=65536)))
theorem f27_eq(t:aC)(hl:t.inits.length<9223372036854775808)(hs:∀o∈t.objs,o.set_.length<9223372036854775808):f27 ⟨t⟩=some (kL t):=by
 unfold f27 kL;dsimp only;cases h1:(decide ((t.objs.length:Int)>4096)||decide (t.excs<4))||decide (t.excs>64);have hol:(t.objs.length:Int)<=4096:=by simp_all
 rw[cdF,bo,f27_l1_eq t _ oM hs _ 0 0 0 rfl (Nat.zero_le _) oM,bo,f27_l2_eq t _ hl hs _ 0 0 [] rfl (Nat.zero_le _) oM];grind;rfl
def at1(t:aC)(a:Int):Bool:=decide (a>=0)&&decide (a<(t.insns.length:Int))
theorem f47_eq(t:aC)(a:Int):f47 ⟨t⟩ a=at1 t a:=rfl
theorem np{t:aC}{a:Int}:at1 t a=true↔0<=a/\a<(t.insns.length:Int):=by unfold at1;simp only[Bool.and_eq_true,decide_eq_true_eq,ge_iff_le]
def uT(os:List Obj)(x:Int):Bool:=match idx os x with
 |some y=>decide (y.size=1)
 |none=>false
theorem f152_eq(t:aC)(x:Int):f152 x ⟨t⟩=some (!(uT t.objs x)):=by
 unfold f152 uT;dsimp only;by_cases h:0<=x/\x<t.objs.length;obtain⟨y,hy,_⟩:=cS h;rw[hy,dcF (show¬x<0 by omega),dcF (show¬x>=(t.objs.length:Int) by omega)];rfl;rw[fO h];have:(decide (x<0)||decide (x>=(t.objs.length:Int)))=true:=by rw[Bool.or_eq_true];simp only[decide_eq_true_eq];omega
 rw[this];rfl
def fP(os:List Obj)(l:List Int):Bool:=decide ((l.length:Int)<=8)&&l.all (uT os)
theorem q8{α:Type}(p:α->Bool)(L:List α):(!(L.any λx=> !(p x)))=L.all p:=by
 induction L with
 |nil=>rfl
 |cons x L ih=>rw[List.any_cons,List.all_cons,<-ih,Bool.not_or,Bool.not_not]
theorem f92_eq(t:aC)(l:List Int):f92 ⟨t⟩ l=some (fP t.objs l):=by unfold f92 fP;by_cases h:(l.length:Int)<=8;rw[dcT h,cdT,f112_eq l _ (λx=> !(uT t.objs x)) oM λx _=>f152_eq t x,bnS,q8];rfl;rw[dcF h];rfl
def fR(os:List Obj)(e:aB):Bool:=fP os e.ins&&fP os e.outs
theorem f91_eq(t:aC)(e:aB):f91 e ⟨t⟩=some (!(fR t.objs e)):=by unfold f91 fR;rw[f92_eq,f92_eq];cases fP t.objs e.ins<;>cases fP t.objs e.outs<;>rfl
def jn(t:aC)(x:aK):Bool:= !(((((decide (x.prio<0)||decide (x.prio>31))||(!(at1 t x.at_)))||decide (x.deadline<0))||decide (x.deadline>2147483647))||decide ((x.entries.length:Int)>8))&&x.entries.all (fR t.objs)
theorem f28_l1_eq(t:aC)(r:Option Bool)(hl:t.tasks.length<9223372036854775808):∀(n i:Nat)(z:Int),z=(i:Int)->i<=t.tasks.length->t.tasks.length<n+i->
  f28_l1 ⟨t⟩ (λ_=>r) n z=bif (t.tasks.drop i).all (jn t) then r else some false
 |0,i,z,_,_,h=>oM
 |n+1,i,z,hz,hi,h=>by
  subst hz;rw[f28_l1];dsimp only;by_cases hh:i<t.tasks.length;rw[bE hh,List.all_cons,dcT (by omega:(i:Int)<(t.tasks.length:Int)),cdT,bJ hh,bnS,f47_eq];unfold jn;generalize t.tasks[i]=x;cases hc:((((decide (x.prio<0)||decide (x.prio>31))||(!(at1 t x.at_)))||decide (x.deadline<0))||decide (x.deadline>2147483647))||decide ((x.entries.length:Int)>8);have he:(x.entries.length:Int)<=8:=by simp only[Bool.or_eq_false_iff,decide_eq_false_iff_not] at hc;omega
  rw[cdF,f90_eq x.entries _ (λe=> !(fR t.objs e)) oM λe _=>f91_eq t e,bnS,<-q8 (fR t.objs),w64 oM oM,f28_l1_eq t r hl n (i+1) _ (by push_cast;rfl) oM oM];cases x.entries.any λe=> !(fR t.objs e)<;>rfl;rfl;rw[dcF (by omega:¬(i:Int)<(t.tasks.length:Int)),cdF,List.drop_eq_nil_of_le oM];rfl
def hY(t:aC):Bool:= !(decide ((t.tasks.length:Int)<1)||decide ((t.tasks.length:Int)>32))&&t.tasks.all (jn t)
theorem f28_eq(t:aC):f28 ⟨t⟩=some (hY t):=by
 unfold f28 hY;dsimp only;cases h1:decide ((t.tasks.length:Int)<1)||decide ((t.tasks.length:Int)>32);have hol:(t.tasks.length:Int)<=32:=by simp only[Bool.or_eq_false_iff,decide_eq_false_iff_not] at h1;omega
 rw[cdF,bo,f28_l1_eq t _ oM _ 0 0 rfl (Nat.zero_le _) oM,List.drop_zero];cases t.tasks.all (jn t)<;>rfl;rfl
def kP(n:Int):List (Int×Bool)->List Int->Bool
 |_,[]=>true
 |m,x::r=>(!((decide (x<1)||decide (x>=n))||inM m x))&&kP n (cm m x true) r
theorem f29_l2_eq(t:aC)(l:List Int)(r:Option Bool)(hl:l.length<9223372036854775808):∀(n i:Nat)(z:Int)(m:List (Int×Bool)),z=(i:Int)->i<=l.length->l.length<n+i->
  f29_l2 ⟨t⟩ l (λ_=>r) n z m=bif kP t.tasks.length m (l.drop i) then r else some false
 |0,i,z,m,_,_,h=>oM
 |n+1,i,z,m,hz,hi,h=>by
  subst hz;rw[f29_l2];dsimp only;by_cases hh:i<l.length;rw[bE hh,kP,dcT (by omega:(i:Int)<(l.length:Int)),cdT,bJ hh,bnS,w64 oM oM,f29_l2_eq t l r hl n (i+1) _ _ (by push_cast;rfl) oM oM];show(bif (_||inM m l[i]) then _ else _)=_;cases (decide (l[i]<1)||decide (l[i]>=(t.tasks.length:Int)))||inM m l[i]<;>rfl;rw[dcF (by omega:¬(i:Int)<(l.length:Int)),cdF,List.drop_eq_nil_of_le oM];rfl
def oq(t:aC)(l:List Int):Bool:=kP t.tasks.length [] l&& !(decide ((l.length:Int)>32))
theorem f29_l1_eq(t:aC)(r:Option Bool)(hl:t.lists.length<9223372036854775808)(hs:∀l∈t.lists,l.length<9223372036854775808):∀(n i:Nat)(z:Int),z=(i:Int)->i<=t.lists.length->t.lists.length<n+i->
  f29_l1 ⟨t⟩ (λ_=>r) n z=bif (t.lists.drop i).all (oq t) then r else some false
 |0,i,z,_,_,h=>oM
 |n+1,i,z,hz,hi,h=>by
  subst hz;rw[f29_l1];dsimp only;by_cases hh:i<t.lists.length;rw[bE hh,List.all_cons,dcT (by omega:(i:Int)<(t.lists.length:Int)),cdT,bo,bJ hh,bnS,bo];have hx:=hs _ (List.getElem_mem hh);generalize t.lists[i]=x at hx;unfold oq;rw[f29_l2_eq t x _ hx _ 0 0 [] rfl (Nat.zero_le _) oM,w64 oM oM,f29_l1_eq t r hl hs n (i+1) _ (by push_cast;rfl) oM oM,List.drop_zero];cases kP t.tasks.length [] x<;>cases decide ((x.length:Int)>32)<;>rfl;rw[dcF (by omega:¬(i:Int)<(t.lists.length:Int)),cdF,List.drop_eq_nil_of_le oM];rfl
def kO(t:aC):Bool:= !(decide ((t.lists.length:Int)>4096))&&t.lists.all (oq t)
theorem f29_eq(t:aC)(hs:∀l∈t.lists,l.length<9223372036854775808):f29 ⟨t⟩=some (kO t):=by
 unfold f29 kO;dsimp only;cases h1:decide ((t.lists.length:Int)>4096);have hol:(t.lists.length:Int)<=4096:=by simp only[decide_eq_false_iff_not] at h1;omega
 rw[cdF,bo,f29_l1_eq t _ oM hs _ 0 0 rfl (Nat.zero_le _) oM,List.drop_zero];cases t.lists.all (oq t)<;>rfl;rfl
def ms(t:aC)(obj:Int)(a:be):Bool:=
 at1 t a.at_&&(decide (a.guard= -1)||spot t.objs obj a.guard 1)&&
 bif decide (a.kind=1) then(decide (a.entry>=0)&&decide (a.entry<8))&&decide (a.time=0)
 else bif decide (a.kind=2)||decide (a.kind=3) then decide (a.entry=0)&&spot t.objs obj a.time 1
 else decide (a.kind=4)&&decide ((i64.wrap (BitVec.ofInt i64.bits a.entry|||BitVec.ofInt i64.bits a.time).toNat)=0)
theorem f157_eq(t:aC)(n o:Int):f157 n ⟨t⟩ o=some (spot t.objs o n 1):=by unfold f157;rw[f89_eq];rfl
theorem f96_eq(t:aC)(o:Int)(a:be):f96 ⟨t⟩ o a=some (ms t o a):=by unfold f96 ms;rw[f47_eq,f157_eq,f157_eq];simp only[bo,bnS];cases at1 t a.at_;rfl;cases decide (a.guard= -1);cases spot t.objs o a.guard 1;rfl;cases decide (a.kind=1);cases decide (a.kind=2)<;>cases decide (a.kind=3)<;>cases decide (a.entry=0)<;>rfl;rfl;cases decide (a.kind=1);cases decide (a.kind=2)<;>cases decide (a.kind=3)<;>cases decide (a.entry=0)<;>rfl;rfl
theorem f31_l2_eq(t:aC)(x:az)(k:Int->Option Bool)(a b:Option Bool)(ha:∀i:Int,0<=i->k i=a)(hl:x.alts.length<9223372036854775808):∀(n i:Nat)(z:Int),z=(i:Int)->i<=x.alts.length->x.alts.length<n+i->
  f31_l2 ⟨t⟩ x k (λ_=>b) n z=bif (x.alts.drop i).all (ms t x.obj) then b else a
 |0,i,z,_,_,h=>oM
 |n+1,i,z,hz,hi,h=>by
  subst hz;rw[f31_l2];by_cases hh:i<x.alts.length;rw[bE hh,List.all_cons,dcT (by omega:(i:Int)<(x.alts.length:Int)),cdT,bJ hh,bnS,bo,f96_eq,bnS];cases ms t x.obj x.alts[i];exact ha _ oM;dsimp only;rw[Bool.not_true,cdF,w64 oM oM,f31_l2_eq t x k a b ha hl n (i+1) _ (by push_cast;rfl) oM oM,Bool.true_and];rw[dcF (by omega:¬(i:Int)<(x.alts.length:Int)),cdF,List.drop_eq_nil_of_le oM];rfl
def nW(t:aC)(x:az):Bool:= !((((decide ((x.alts.length:Int)<1)||decide ((x.alts.length:Int)>16))||decide (x.obj<0))||decide (x.obj>=(t.objs.length:Int)))||((!decide (x.else_= -1))&&(!(at1 t x.else_))))&&x.alts.all (ms t x.obj)
theorem f31_l1_eq(t:aC)(r:Option Bool)(hl:t.selects.length<9223372036854775808):∀(n i:Nat)(z:Int),z=(i:Int)->i<=t.selects.length->t.selects.length<n+i->
  f31_l1 ⟨t⟩ (λ_=>r) n z=bif (t.selects.drop i).all (nW t) then r else some false
 |0,i,z,_,_,h=>oM
 |n+1,i,z,hz,hi,h=>by
  subst hz;rw[f31_l1];dsimp only;by_cases hh:i<t.selects.length;rw[bE hh,List.all_cons,dcT (by omega:(i:Int)<(t.selects.length:Int)),cdT,bJ hh,bnS,f47_eq];generalize t.selects[i]=x;unfold nW;cases hc:(((decide ((x.alts.length:Int)<1)||decide ((x.alts.length:Int)>16))||decide (x.obj<0))||decide (x.obj>=(t.objs.length:Int)))||((!decide (x.else_= -1))&&(!(at1 t x.else_)));have he:(x.alts.length:Int)<=16:=by simp only[Bool.or_eq_false_iff,decide_eq_false_iff_not] at hc;omega
  simp only[bo];rw[cdF,f31_l2_eq t x _ (some false) _ (λi h=>by rw[dcT (show i>=0 from h)];rfl) oM _ 0 0 rfl (Nat.zero_le _) oM,List.drop_zero,w64 oM oM,f31_l1_eq t r hl n (i+1) _ (by push_cast;rfl) oM oM];cases x.alts.all (ms t x.obj)<;>rfl;rfl;rw[dcF (by omega:¬(i:Int)<(t.selects.length:Int)),cdF,List.drop_eq_nil_of_le oM];rfl
def nV(t:aC):Bool:= !(decide ((t.selects.length:Int)>1024))&&t.selects.all (nW t)
theorem f31_eq(t:aC):f31 ⟨t⟩=some (nV t):=by
 unfold f31 nV;dsimp only;cases h1:decide ((t.selects.length:Int)>1024);have hol:(t.selects.length:Int)<=1024:=by simp only[decide_eq_false_iff_not] at h1;omega
 rw[cdF,bo,f31_l1_eq t _ oM _ 0 0 rfl (Nat.zero_le _) oM,List.drop_zero];cases t.selects.all (nW t)<;>rfl;rfl
def mS(h g:ak):Bool:= !((!(decide (g.from_>=h.from_)&&decide (g.to<=h.to)))&&decide ((if h.from_>g.from_ then h.from_ else g.from_)<(if h.to<g.to then h.to else g.to)))
theorem nS{α:Type}(L:List α)(i:Nat):bu L 0 (i:Int)=L.take i:=by simp[bu]
theorem f32_l2_eq(t:aC)(j:Nat)(h0:ak)(r:Option Bool)(hj:j<=t.handlers.length)(hl:t.handlers.length<9223372036854775808):∀(n i:Nat)(z:Int),z=(i:Int)->i<=j->j<n+i->
  f32_l2 ⟨t⟩ (j:Int) (λ_ _ _ _=>r) h0 n z=bif ((t.handlers.take j).drop i).all (mS h0) then r else some false
 |0,i,z,_,_,h=>oM
 |n+1,i,z,hz,hi,h=>by
  subst hz;have hL:(t.handlers.take j).length=j:=by rw[List.length_take];omega
  rw[f32_l2];dsimp only;rw[nS];by_cases hh:i<(t.handlers.take j).length;rw[bE hh,List.all_cons,dcT (by omega:(i:Int)<((t.handlers.take j).length:Int)),cdT,bJ hh,bnS,w64 oM oM,f32_l2_eq t j h0 r hj hl n (i+1) _ (by push_cast;rfl) oM oM];generalize(t.handlers.take j)[i]=g;unfold mS;cases (!(decide (g.from_>=h0.from_)&&decide (g.to<=h0.to)))&&decide ((if h0.from_>g.from_ then h0.from_ else g.from_)<(if h0.to<g.to then h0.to else g.to))<;>rfl;rw[dcF (by omega:¬(i:Int)<((t.handlers.take j).length:Int)),cdF,List.drop_eq_nil_of_le oM];rfl
def pB(t:aC)(x:ak):Bool:=((((decide (x.from_<0))||(decide (x.from_>=x.to)))||(decide (x.to>(t.insns.length:Int))))||(!(at1 t x.at_)))||(f50 x x.at_)
def jw(t:aC):List ak->List ak->Bool
 |_,[]=>true
 |P,x::r=>(!(pB t x))&&P.all (mS x)&&jw t (P++ [x]) r
theorem f32_l1_eq(t:aC)(r:Option Bool)(hl:t.handlers.length<9223372036854775808):∀(n i:Nat)(z:Int),z=(i:Int)->i<=t.handlers.length->t.handlers.length<n+i->
  f32_l1 ⟨t⟩ (λ_=>r) n z=bif jw t (t.handlers.take i) (t.handlers.drop i) then r else some false
 |0,i,z,_,_,h=>oM
 |n+1,i,z,hz,hi,h=>by
  subst hz;rw[f32_l1];dsimp only;by_cases hh:i<t.handlers.length;have hL:(t.handlers.take i).length=i:=by rw[List.length_take];omega
  rw[bE hh,jw,<-List.take_succ_eq_append_getElem hh,dcT (by omega:(i:Int)<(t.handlers.length:Int)),cdT,bo,bJ hh,bnS,f47_eq,ox _ (by simp[bX];omega),nS,w64 oM oM,f32_l2_eq t i _ _ oM hl _ 0 0 rfl (Nat.zero_le _) oM,f32_l1_eq t r hl n (i+1) _ (by push_cast;rfl) oM oM,List.drop_zero];generalize t.handlers[i]=x;show(bif pB t x then _ else _)=_;cases pB t x<;>cases (t.handlers.take i).all (mS x)<;>rfl;rw[dcF (by omega:¬(i:Int)<(t.handlers.length:Int)),cdF,List.drop_eq_nil_of_le oM];rfl
def me(t:aC):Bool:= !(decide ((t.handlers.length:Int)>4096))&&jw t [] t.handlers
theorem f32_eq(t:aC):f32 ⟨t⟩=some (me t):=by
 unfold f32 me;dsimp only;cases h1:decide ((t.handlers.length:Int)>4096);have hol:(t.handlers.length:Int)<=4096:=by simp only[decide_eq_false_iff_not] at h1;omega
 rw[cdF,bo,f32_l1_eq t _ oM _ 0 0 rfl (Nat.zero_le _) oM,List.drop_zero,List.take_zero];cases jw t [] t.handlers<;>rfl;rfl
def lpOk(t:aC)(x:Loop):Bool:=(!((decide (x.head<0)||decide (x.head>x.back))||(!(at1 t x.back))))&&(match idx t.insns x.back with|some y=>f97 y x.head|none=>false)&& !(decide (x.bound<0)||decide (x.bound>2147483647))
def oo(t:aC):List (Int×Bool)->List Loop->Bool
 |_,[]=>true
 |m,x::r=>(!(inM m x.back))&&lpOk t x&&oo t (cm m x.back true) r
theorem f33_l1_eq(t:aC)(r:Option Bool)(hl:t.loops.length<9223372036854775808):∀(n i:Nat)(z:Int)(m:List (Int×Bool)),z=(i:Int)->i<=t.loops.length->t.loops.length<n+i->
  f33_l1 ⟨t⟩ (λ_=>r) n z m=bif oo t m (t.loops.drop i) then r else some false
 |0,i,z,m,_,_,h=>oM
 |n+1,i,z,m,hz,hi,h=>by
  subst hz;rw[f33_l1];dsimp only;by_cases hh:i<t.loops.length;rw[bE hh,oo,dcT (by omega:(i:Int)<(t.loops.length:Int)),cdT,bJ hh,bnS,f47_eq,w64 oM oM,f33_l1_eq t r hl n (i+1) _ _ (by push_cast;rfl) oM oM];generalize t.loops[i]=x;unfold lpOk;show Option.bind (bif (_||inM m x.back) then _ else _) _=_;cases h1:(decide (x.head<0)||decide (x.head>x.back))||(!(at1 t x.back));cases inM m x.back;have h2:at1 t x.back=true:=by cases h:at1 t x.back;rw[h] at h1;simp at h1;rfl
  obtain⟨y,hy,_⟩:=cS (np.1 h2);rw[hy];simp only[bnS,Bool.or_self,cdF,Bool.not_false,Bool.true_and,Bool.or_assoc];cases f97 y x.head<;>cases (decide (x.bound<0)||decide (x.bound>2147483647))<;>rfl;rfl;cases inM m x.back<;>rfl;rw[dcF (by omega:¬(i:Int)<(t.loops.length:Int)),cdF,List.drop_eq_nil_of_le oM];rfl
def tt(t:aC):Bool:= !(decide ((t.loops.length:Int)>4096))&&oo t [] t.loops
theorem f33_eq(t:aC):f33 ⟨t⟩=some (tt t):=by
 unfold f33 tt;dsimp only;cases h1:decide ((t.loops.length:Int)>4096);have hol:(t.loops.length:Int)<=4096:=by simp only[decide_eq_false_iff_not] at h1;omega
 rw[cdF,bo,f33_l1_eq t _ oM _ 0 0 [] rfl (Nat.zero_le _) oM,List.drop_zero];cases oo t [] t.loops<;>rfl;rfl
def chk(t:aC)(a:Int):Bool:=match idx t.insns a with
 |some x=>decide (x.op=27)||decide (x.op=28)
 |none=>false
theorem f61_eq(t:aC)(a:Int):f61 ⟨t⟩ a=some (chk t a):=by unfold f61 chk;rw[f47_eq];dsimp only;cases h:at1 t a;rw[fO (λhh=>by rw[np.2 hh] at h;cases h)];rfl;obtain⟨y,hy,_⟩:=cS (np.1 h);rw[hy];dsimp only[bnS,cdT];cases decide (y.op=27)<;>rfl
def ni(t:aC):Int->List bf->Bool
 |_,[]=>true
 |last,x::r=>((decide (last<x.at_)&&chk t x.at_)&& !(decide (x.kind<1)||decide (x.kind>5)))&&ni t x.at_ r
theorem f34_l1_eq(t:aC)(r:Option Bool)(hl:t.checks.length<9223372036854775808):∀(n i:Nat)(z last:Int),z=(i:Int)->i<=t.checks.length->t.checks.length<n+i->
  f34_l1 ⟨t⟩ (λ_=>r) n last z=bif ni t last (t.checks.drop i) then r else some false
 |0,i,z,last,_,_,h=>oM
 |n+1,i,z,last,hz,hi,h=>by
  subst hz;rw[f34_l1];dsimp only;by_cases hh:i<t.checks.length;rw[bE hh,ni,dcT (by omega:(i:Int)<(t.checks.length:Int)),cdT,bJ hh,bnS,f61_eq,w64 oM oM,f34_l1_eq t r hl n (i+1) _ _ (by push_cast;rfl) oM oM];generalize t.checks[i]=x;by_cases h1:last<x.at_;rw[dcT h1,dcF (show¬x.at_<=last by omega)];cases chk t x.at_<;>cases decide (x.kind<1)<;>cases decide (x.kind>5)<;>rfl;rw[dcF h1,dcT (show x.at_<=last by omega)];rfl;rw[dcF (by omega:¬(i:Int)<(t.checks.length:Int)),cdF,List.drop_eq_nil_of_le oM];rfl
theorem f34_eq(t:aC)(hl:t.checks.length<9223372036854775808):f34 ⟨t⟩=some (ni t (-1) t.checks):=by unfold f34;dsimp only;rw[bo,f34_l1_eq t _ hl _ 0 0 (-1) rfl (Nat.zero_le _) oM,List.drop_zero];cases ni t (-1) t.checks<;>rfl
def ck(os:List Obj)(ent:Int)(e:ae):Bool×Int×Int×Int×Int×Int:=
 bif decide (e.kind=1) then(true,0,0,e.n,0,0) else
 bif decide (e.kind=2) then(bif spot os e.o e.off 1&&(match idx os e.o with|some y=> !y.ptr|none=>false) then(true,0,0,0,e.o,e.off) else(false,0,0,0,0,0)) else
 bif decide (e.kind=14) then(decide (e.n>=0)&&decide (e.n<ent),0,0,e.n,0,0) else
 bif decide (e.kind=4) then(true,1,18,0,0,0) else
 bif decide (e.kind=5) then(true,2,(if(if 15<e.op then 15 else e.op)>7 then(if 15<e.op then 15 else e.op) else 7),0,0,0) else
 bif decide (e.kind=6)||decide (e.kind=7) then(true,2,0,0,0,0) else(false,0,0,0,0,0)
def fp(os:List Obj)(ent:Int)(e:ae):Bool:=
 ((((((((!(ck os ent e).1)||(!decide ((List.length e.l:Int)=(ck os ent e).2.1)))||(!decide (e.op=(ck os ent e).2.2.1)))||(!decide (e.n=(ck os ent e).2.2.2.1)))||(!decide (e.o=(ck os ent e).2.2.2.2.1)))||(!decide (e.off=(ck os ent e).2.2.2.2.2)))||(!decide (e.len=0)))||(!decide (e.lo=0)))||(!decide (e.hi=0))
def exL(rec:Int->ae->Bool×Int):List ae->Int->Bool×Int
 |[],l=>(true,l)
 |e::r,l=>bif (rec l e).1 then exL rec r (rec l e).2 else(false,(rec l e).2)
def exF(os:List Obj)(ent:Int):Nat->Int->Int->ae->Bool×Int
 |0,_,left,_=>(false,left)
 |n+1,deep,left,e=>
  bif (decide (i64.wrap (left - 1)<0)||decide (deep>64))||fp os ent e then(false,i64.wrap (left - 1))
  else exL (exF os ent n (deep+1)) e.l (i64.wrap (left - 1))
theorem ph(os:List Obj)(ent:Int)(e:ae):(ck os ent e).2.1<=2:=by unfold ck;cases decide (e.kind=1)<;>cases decide (e.kind=2)<;>cases decide (e.kind=14)<;>cases decide (e.kind=4)<;>cases decide (e.kind=5)<;>cases (decide (e.kind=6)||decide (e.kind=7))<;>simp<;>cases (spot os e.o e.off 1&&(match idx os e.o with|some y=> !y.ptr|none=>false))<;>simp
abbrev Rt:Type:=Bool×(List aJ)×(List ak)×(List Loop)×(List az)×(List (List Int))×(List Obj)×(List bq)×Int×(List aK)×(List aT)×(List bf)×Int×Int
abbrev Re:Type:=(List aJ)->(List ak)->(List Loop)->(List az)->(List (List Int))->(List Obj)->(List bq)->Int->(List aK)->(List aT)->(List bf)->Int->Int->ae->Int->Option Rt
section
variable(v0:List aJ)(v1:List ak)(v2:List Loop)(v3:List az)(v4:List (List Int))(v5:List Obj)(v6:List bq)(v7:Int)(v8:List aK)(v9:List aT)(v10:List bf)(ent:Int)
def mP(z:Bool×Int):Option Rt:=some (z.1,v0,v1,v2,v3,v4,v5,v6,v7,v8,v9,v10,ent,z.2)
theorem f93s_l1_eq(rec:Re)(g:Int->ae->Bool×Int)(e:ae)(deep:Int)
  (hrec:∀l x,rec v0 v1 v2 v3 v4 v5 v6 v7 v8 v9 v10 ent l x (i64.wrap (deep+1))=mP v0 v1 v2 v3 v4 v5 v6 v7 v8 v9 v10 ent (g l x))
  (ka:Int->(List aJ)->(List ak)->(List Loop)->(List az)->(List (List Int))->(List Obj)->(List bq)->Int->(List aK)->(List aT)->(List bf)->Int->Int->Option Rt)
  (kb:(List aJ)->(List ak)->(List Loop)->(List az)->(List (List Int))->(List Obj)->(List bq)->Int->(List aK)->(List aT)->(List bf)->Int->Int->Option Rt)
  (ha:∀(i:Int) l,0<=i->ka i v0 v1 v2 v3 v4 v5 v6 v7 v8 v9 v10 ent l=mP v0 v1 v2 v3 v4 v5 v6 v7 v8 v9 v10 ent (false,l))
  (hb:∀l,kb v0 v1 v2 v3 v4 v5 v6 v7 v8 v9 v10 ent l=mP v0 v1 v2 v3 v4 v5 v6 v7 v8 v9 v10 ent (true,l))
  (hl:e.l.length<9223372036854775808):∀(n i:Nat)(z l:Int),z=(i:Int)->i<=e.l.length->e.l.length<n+i->
  f93s_l1 rec e deep ka kb n z v0 v1 v2 v3 v4 v5 v6 v7 v8 v9 v10 ent l=mP v0 v1 v2 v3 v4 v5 v6 v7 v8 v9 v10 ent (exL g (e.l.drop i) l)
 |0,i,z,l,_,_,h=>oM
 |n+1,i,z,l,hz,hi,h=>by
  subst hz;rw[f93s_l1];by_cases hh:i<e.l.length;rw[bE hh,exL,dcT (by omega:(i:Int)<(e.l.length:Int)),cdT,bJ hh,bnS,bo,hrec];unfold mP;dsimp only[bnS];cases (g l e.l[i]).1;exact ha _ _ oM;rw[Bool.not_true,cdF,w64 oM oM];exact f93s_l1_eq rec g e deep hrec ka kb ha hb hl n (i+1) _ _ (by push_cast;rfl) oM oM;rw[dcF (by omega:¬(i:Int)<(e.l.length:Int)),cdF,List.drop_eq_nil_of_le oM];exact hb _
theorem f93s_eq(rec:Re)(g:Int->ae->Bool×Int)(e:ae)(deep left:Int)
  (hrec:deep<=64->∀l x,rec v0 v1 v2 v3 v4 v5 v6 v7 v8 v9 v10 ent l x (i64.wrap (deep+1))=mP v0 v1 v2 v3 v4 v5 v6 v7 v8 v9 v10 ent (g l x)):∀z,f93s rec v0 v1 v2 v3 v4 v5 v6 v7 v8 v9 v10 ent left e deep=z->
  z=mP v0 v1 v2 v3 v4 v5 v6 v7 v8 v9 v10 ent (bif (decide (i64.wrap (left - 1)<0)||decide (deep>64))||fp v5 ent e then(false,i64.wrap (left - 1)) else exL g e.l (i64.wrap (left - 1))):=by
 intro z h;obtain⟨K,hK,h⟩:=aA h;have h':K (ck v5 ent e).1 (ck v5 ent e).2.1 (ae.mk e.kind (ck v5 ent e).2.2.1 (ck v5 ent e).2.2.2.1 (ck v5 ent e).2.2.2.2.1 (ck v5 ent e).2.2.2.2.2 0 0 0 []) (ck v5 ent e).2.2.1 (ck v5 ent e).2.2.2.1 (ck v5 ent e).2.2.2.2.1 (ck v5 ent e).2.2.2.2.2=z:=by rw[<-h,bo];unfold ck;cases decide (e.kind=1);cases decide (e.kind=2);cases decide (e.kind=14);cases decide (e.kind=4);cases decide (e.kind=5);cases decide (e.kind=6)<;>cases decide (e.kind=7)<;>rfl;rfl;rfl;cases decide (e.n>=0)<;>rfl;grind [f89_eq,spot];rfl
 clear h;rw[hK] at h';dsimp only at h';have hc:=ph v5 ent e;have e1:(((((((((((decide (i64.wrap (left - 1)<0))||(decide (deep>64)))||(!(ck v5 ent e).1))||(!decide ((List.length e.l:Int)=(ck v5 ent e).2.1)))||(!decide (e.op=(ck v5 ent e).2.2.1)))||(!decide (e.n=(ck v5 ent e).2.2.2.1)))||(!decide (e.o=(ck v5 ent e).2.2.2.2.1)))||(!decide (e.off=(ck v5 ent e).2.2.2.2.2)))||(!decide (e.len=0)))||(!decide (e.lo=0)))||(!decide (e.hi=0)))=((decide (i64.wrap (left - 1)<0)||decide (deep>64))||fp v5 ent e):=by grind [fp]
 rw[e1] at h';cases hbad:(decide (i64.wrap (left - 1)<0)||decide (deep>64))||fp v5 ent e;rw[hbad,cdF] at h';have hd:deep<=64:=by simp_all
 have hlen:e.l.length<=2:=by grind
 simp only[bo] at h';rw[f93s_l1_eq v0 v1 v2 v3 v4 v5 v6 v7 v8 v9 v10 ent rec g e deep (hrec hd) _ _ (λi l h0=>by rw[dcT (show i>=0 from h0)];rfl) (λl=>rfl) oM _ 0 0 _ rfl (Nat.zero_le _) oM,List.drop_zero] at h';grind;rw[hbad,cdT] at h';rw[<-h',cdT];rfl
theorem f93_eq:∀(n:Nat)(deep left:Int)(e:ae),1<=deep->deep<=65->66<n+deep->f93 n v0 v1 v2 v3 v4 v5 v6 v7 v8 v9 v10 ent left e deep=mP v0 v1 v2 v3 v4 v5 v6 v7 v8 v9 v10 ent (exF v5 ent n deep left e)
 |0,deep,left,e,h0,h1,h2=>oM
 |n+1,deep,left,e,h0,h1,h2=>by
  exact f93s_eq v0 v1 v2 v3 v4 v5 v6 v7 v8 v9 v10 ent (f93 n) (exF v5 ent n (deep+1)) e deep left (λhd l x=>by
   rw[w64 oM oM];exact f93_eq n (deep+1) l x oM oM oM) _ rfl
end
def mr(t:aC)(ent:Int)(e:ae):Bool:=(exF t.objs ent 66 1 256 e).1
theorem f30_l2_eq(t:aC)(x:aT)(r:Option Bool)(hl:x.barriers.length<9223372036854775808):∀(n i:Nat)(z:Int),z=(i:Int)->i<=x.barriers.length->x.barriers.length<n+i->
  f30_l2 ⟨t⟩ (λ_ _=>r) x n z=bif (x.barriers.drop i).all (mr t x.barriers.length) then r else some false
 |0,i,z,_,_,h=>oM
 |n+1,i,z,hz,hi,h=>by
  subst hz;rw[f30_l2];by_cases hh:i<x.barriers.length;rw[bE hh,List.all_cons,dcT (by omega:(i:Int)<(x.barriers.length:Int)),cdT,bJ hh,bnS,f93_eq _ _ _ _ _ _ _ _ _ _ _ _ 66 1 256 _ oM oM oM,w64 oM oM,f30_l2_eq t x r hl n (i+1) _ (by push_cast;rfl) oM oM];grind [mP,mr,exF];grind
def mO(t:aC)(x:aT):Bool:= !((decide (x.ceiling<0)||decide (x.ceiling>31))||decide ((x.barriers.length:Int)>8))&&x.barriers.all (mr t x.barriers.length)
theorem f30_l1_eq(t:aC)(r:Option Bool)(hl:t.prots.length<9223372036854775808):∀(n i:Nat)(z:Int),z=(i:Int)->i<=t.prots.length->t.prots.length<n+i->
  f30_l1 ⟨t⟩ (λ_=>r) n z=bif (t.prots.drop i).all (mO t) then r else some false
 |0,i,z,_,_,h=>oM
 |n+1,i,z,hz,hi,h=>by
  subst hz;rw[f30_l1];by_cases hh:i<t.prots.length;rw[bE hh,List.all_cons,dcT (by omega:(i:Int)<(t.prots.length:Int)),cdT,bo,bJ hh,bnS];generalize t.prots[i]=x;unfold mO;cases hc:(decide (x.ceiling<0)||decide (x.ceiling>31))||decide ((x.barriers.length:Int)>8);have he:(x.barriers.length:Int)<=8:=by simp_all
  rw[cdF,f30_l2_eq t x _ oM _ 0 0 rfl (Nat.zero_le _) oM,w64 oM oM,f30_l1_eq t r hl n (i+1) _ (by push_cast;rfl) oM oM,List.drop_zero];cases x.barriers.all (mr t x.barriers.length)<;>rfl;rfl;grind
def kH(t:aC):Bool:=t.prots.all (mO t)&&decide ((t.prots.length:Int)<=32)
theorem f30_eq(t:aC)(hl:t.prots.length<9223372036854775808):f30 ⟨t⟩=some (kH t):=by unfold f30 kH;dsimp only;rw[bo,f30_l1_eq t _ hl _ 0 0 rfl (Nat.zero_le _) oM,List.drop_zero];grind
def prs(o:Int):Option (List ByteArray):=(f158 o).bind λr=>f186 r.1.fields
def ch(s:ByteArray):Int×Int:=((eU s 0).getD 0,(eU s 1).getD 0)
def xT(o:Int):List (Int×Int):=((prs o).getD []).map ch
theorem xu:∀k,k<57->(match prs ((k:Nat)+1:Int) with|some l=>Nat.blt l.length 100&&l.all λs=>(eU s 0).isSome&&(eU s 1).isSome|none=>false)=true:=by decide+kernel
theorem f158_ok:∀k,k<57->(match f158 ((k:Nat)+1:Int) with|some r=>r.2|none=>false)=true:=by decide+kernel
theorem f158_eq{o:Int}(h1:1<=o)(h2:o<=57):∃r,f158 o=some (r,true):=by obtain⟨k,rfl⟩:∃k:Nat,o=(k:Int)+1:=⟨(o - 1).toNat,oM⟩;have:=f158_ok k oM;grind
theorem xv{o:Int}(h1:1<=o)(h2:o<=57):∃l,prs o=some l/\l.length<100/\∀s∈l,(∃c,eU s 0=some c)/\∃c,eU s 1=some c:=by
 obtain⟨k,rfl⟩:∃k:Nat,o=(k:Int)+1:=⟨(o - 1).toNat,oM⟩;have:=xu k oM;cases h:prs ((k:Int)+1) with
 |none=>grind
 |some l=>rw[h] at this;rw[Bool.and_eq_true] at this;refine⟨l,rfl,by simpa using this.1,λs hs=>?_⟩;have:=List.all_eq_true.1 this.2 s hs;rw[Bool.and_eq_true] at this;exact⟨Option.isSome_iff_exists.1 this.1,Option.isSome_iff_exists.1 this.2⟩
def rng(w v:Int):Bool:= !(decide (v<(f189 w).1)||decide (v>(f189 w).2))
def fl:List (Int×Int)->Int->Int->Int->Int->Int->Int->Bool
 |[],d,a,b,n,m,to=>(decide (d=0))&&((decide (a=0))&&((decide (b=0))&&((decide (n=0))&&((decide (m=0))&&((decide (to=0))&&true)))))
 |(c,w)::r,d,a,b,n,m,to=>
  bif decide (c=68) then rng w d&&fl r 0 a b n m to else
  bif decide (c=65) then rng w a&&fl r d 0 b n m to else
  bif decide (c=66) then rng w b&&fl r d a 0 n m to else
  bif decide (c=78) then rng w n&&fl r d a b 0 m to else
  bif decide (c=77) then rng w m&&fl r d a b n 0 to else rng w to&&fl r d a b n m 0
theorem f99_l1_eq(k1 k2 k3 k4 k5 k6:Int->Int->Int->Int->Int->Int->ByteArray->ByteArray->Int->Int->Int->Int->Option Bool)
  (h1:∀a b c d e f g h i j k l,k1 a b c d e f g h i j k l=some false)(h2:∀a b c d e f g h i j k l,k2 a b c d e f g h i j k l=some false)(h3:∀a b c d e f g h i j k l,k3 a b c d e f g h i j k l=some false)
  (h4:∀a b c d e f g h i j k l,k4 a b c d e f g h i j k l=some false)(h5:∀a b c d e f g h i j k l,k5 a b c d e f g h i j k l=some false)(h6:∀a b c d e f g h i j k l,k6 a b c d e f g h i j k l=some false)
  (k7:Int->Int->Int->Int->Int->Int->ByteArray->ByteArray->Option Bool)(h7:∀d a b n m to x y,k7 d a b n m to x y=some (fl [] d a b n m to))(r:gB×Bool)(L:List ByteArray)(hL:∀s∈L,(∃c,eU s 0=some c)/\∃c,eU s 1=some c)(hl:L.length<9223372036854775808):
  ∀(n i:Nat)(z d a b vn m to:Int),z=(i:Int)->i<=L.length->L.length<n+i->f99_l1 k1 k2 k3 k4 k5 k6 k7 r L n z d a b vn m to=some (fl ((L.drop i).map ch) d a b vn m to)
 |0,i,z,_,_,_,_,_,_,_,_,h=>oM
 |n+1,i,z,d,a,b,vn,m,to,hz,hi,h=>by
  subst hz;rw[f99_l1];by_cases hh:i<L.length;obtain⟨⟨c,hc⟩,w,hw⟩:=hL _ (List.getElem_mem hh);have ih:=λd a b vn m to=>f99_l1_eq k1 k2 k3 k4 k5 k6 h1 h2 h3 h4 h5 h6 k7 h7 r L hL hl n (i+1) _ d a b vn m to (by push_cast;rfl) oM oM;have he:ch L[i]=(c,w):=by grind [ch]
  rw[bE hh,List.map_cons,he,fl,dcT (by omega:(i:Int)<(L.length:Int)),cdT,bJ hh,bnS,hc,bnS,w64 oM oM];simp only[bo,hw,bnS,h1,h2,h3,h4,h5,h6,ih];unfold rng;cases decide (c=68);cases decide (c=65);cases decide (c=66);grind;grind;grind;grind;grind
def rN(x:aJ):Bool:= !((!(decide (1<=x.op)&&decide (x.op<=57)))||(decide (x.op=27)&&decide (x.n>x.m)))&&(!((decide (x.op=37)&&decide ((IntKind.u8.wrap x.n)=6))&&(!decide (x.m=0)))&&fl (xT x.op) x.d x.a x.b x.n x.m x.to)
theorem f99_eq(x:aJ)(ho:0<=x.op/\x.op<=255):f99 x=some (rN x):=by
 unfold f99 rN;by_cases h:1<=x.op/\x.op<=57;obtain⟨r,hr⟩:=f158_eq h.1 h.2;obtain⟨l,hl,hlen,hg⟩:=xv h.1 h.2;have hf:f186 r.fields=some l:=by grind [prs]
 rw[hr,bnS,dcT h.1,dcT h.2];rw[Bool.not_true,Bool.false_or,Bool.and_true,Bool.not_true,Bool.false_or];cases decide (x.op=27)&&decide (x.n>x.m);rw[cdF];cases (decide (x.op=37)&&decide ((IntKind.u8.wrap x.n)=6))&&(!decide (x.m=0));rw[cdF];simp only[bo];rw[bnS,hf,bnS];refine(f99_l1_eq _ _ _ _ _ _ (λ_ _ _ _ _ _ _ _ _ _ _ _=>rfl) (λ_ _ _ _ _ _ _ _ _ _ _ _=>rfl) (λ_ _ _ _ _ _ _ _ _ _ _ _=>rfl) (λ_ _ _ _ _ _ _ _ _ _ _ _=>rfl) (λ_ _ _ _ _ _ _ _ _ _ _ _=>rfl) (λ_ _ _ _ _ _ _ _ _ _ _ _=>rfl) _ (by intro d a b n m to _ _;rfl) _ l hg oM _ 0 0 _ _ _ _ _ _ rfl (Nat.zero_le _) oM).trans ?_;grind [xT];rfl;rfl;have e:f158 x.op=some ((gB.mk ByteArray.empty ByteArray.empty),false):=by grind [f158,w64]
 grind
def t5(t:aC)(task n:Int):Int×Bool:=match idx t.tasks task with
 |some x=>(match idx x.entries n with
  |some e=>((i64.wrap ((i64.wrap ((List.length e.ins:Int)+(List.length e.outs:Int)))+1)),true)
  |none=>(0,false))
 |none=>(0,false)
theorem f101_eq(t:aC)(a n:Int):f101 ⟨t⟩ a n=some (t5 t a n):=by unfold f101 t5;by_cases h:0<=a/\a<t.tasks.length;obtain⟨y,hy,_⟩:=cS h;rw[hy,dcF (show¬a<0 by omega),dcF (show¬a>=(t.tasks.length:Int) by omega)];dsimp only[bnS];by_cases h2:0<=n/\n<y.entries.length;obtain⟨e,he,_⟩:=cS h2;grind;grind [fO];grind [fO]
def vG(t:aC)(p n:Int):Bool:=match idx t.prots p with
 |some x=>decide (0<=n)&&decide (n<(x.barriers.length:Int))
 |none=>false
theorem f102_eq(t:aC)(p n:Int):f102 ⟨t⟩ p n=some (vG t p n):=by unfold f102 vG;by_cases h:0<=p/\p<t.prots.length;obtain⟨y,hy,_⟩:=cS h;grind;grind [fO]
def jtOk(t:aC)(x:aJ):Bool:=decide ((i64.wrap (x.to+x.m))<=(t.insns.length:Int))&&(bu t.insns x.to (i64.wrap (x.to+x.m))).all (λy=>decide (y.op=29))
def pD(t:aC)(x:aJ):Bool:=rN x&&
 bif decide (x.op=3)||decide (x.op=4) then spot t.objs x.n x.m 1 else
 bif decide (x.op=5)||decide (x.op=6) then spot t.objs x.n x.m x.b else
 bif decide (x.op=29)||(decide (x.op=30)||decide (x.op=31)) then at1 t x.to else
 bif decide (x.op=32) then jtOk t x else
 bif decide (x.op=33) then decide (x.n<=t.excs) else
 bif decide (x.op=44)||(decide (x.op=45)||(decide (x.op=46)||decide (x.op=56))) then decide (x.n<(t.lists.length:Int)) else
 bif decide (x.op=50) then decide (x.n<(t.selects.length:Int)) else
 bif decide (x.op=49) then(t5 t x.a x.b).2&&spot t.objs x.n 0 (t5 t x.a x.b).1 else
 bif decide (x.op=52) then(t5 t x.a x.b).2&&decide (x.to<(t.insns.length:Int)) else
 bif decide (x.op=53)||decide (x.op=55) then decide (x.n<(t.prots.length:Int)) else
 bif decide (x.op=54) then vG t x.n x.m else
 bif decide (x.op=43) then decide (x.m<0)||vG t x.m x.n else true
theorem xS:xT 32=[(65,114),(78,118),(77,108),(84,115)]:=by decide+kernel
theorem xL{x:aJ}(h:rN x=true)(ho:x.op=32):0<=x.to/\x.to<=65535/\1<=x.m/\x.m<=65536:=by grind [rN,xS,fl,rng,f189]
theorem vJ(L:List aJ)(hl:L.length<9223372036854775808):f35 L (λz0=>some (f100 z0))=some (!(L.all λy=>decide (y.op=29))):=by
 rw[f35_eq L _ f100 hl λ_ _=>rfl];congr 1;induction L with
 |nil=>rfl
 |cons x L ih=>rw[List.any_cons,List.all_cons,ih (by simp at hl;omega),Bool.not_and];rfl
theorem f37_eq(t:aC)(x:aJ)(ho:0<=x.op/\x.op<=255)(hl:t.insns.length<=65536):f37 ⟨t⟩ x=some (pD t x):=by unfold f37 pD;rw[f99_eq x ho,bnS];cases hm:rN x;rfl;simp only[bo,f89_eq,f47_eq,f101_eq,f102_eq,bnS];rw[Bool.not_true,cdF,Bool.true_and];cases decide (x.op=3);cases decide (x.op=4);cases decide (x.op=5);cases decide (x.op=6);cases decide (x.op=29);cases decide (x.op=30);cases decide (x.op=31);cases h32:decide (x.op=32);cases decide (x.op=33);cases decide (x.op=44);cases decide (x.op=45);cases decide (x.op=46);cases decide (x.op=56);cases decide (x.op=50);grind;rfl;rfl;rfl;rfl;rfl;rfl;obtain⟨a1,a2,a3,a4⟩:=xL hm (of_decide_eq_true h32);unfold jtOk;dsimp only[cdT,cdF,Bool.or_false];by_cases h4:(i64.wrap (x.to+x.m))<=(t.insns.length:Int);rw[dcT h4,cdT];grind [w64,ox,bX,vJ,bu];grind;rfl;rfl;rfl;rfl;rfl;rfl;rfl
structure Sz(t:aC):Prop where
 ops:∀x∈t.insns,0<=x.op/\x.op<=255
 inits:t.inits.length<9223372036854775808
 sets:∀o∈t.objs,o.set_.length<9223372036854775808
 lists:∀l∈t.lists,l.length<9223372036854775808
 prots:t.prots.length<9223372036854775808
 checks:t.checks.length<9223372036854775808
theorem f10_l1_eq(t:aC)(k:Int->Option Bool)(a b:Option Bool)(ha:∀i:Int,0<=i->k i=a)(ho:∀x∈t.insns,0<=x.op/\x.op<=255)(hl:t.insns.length<=65536):∀(n i:Nat)(z:Int),z=(i:Int)->i<=t.insns.length->t.insns.length<n+i->
  f10_l1 t k (λ_=>b) n z=bif (t.insns.drop i).all (pD t) then b else a
 |0,i,z,_,_,h=>oM
 |n+1,i,z,hz,hi,h=>by
  subst hz;rw[f10_l1];by_cases hh:i<t.insns.length;rw[bE hh,List.all_cons,dcT (by omega:(i:Int)<(t.insns.length:Int)),cdT,bJ hh,bnS,bo,f37_eq t _ (ho _ (List.getElem_mem hh)) hl,bnS];cases pD t t.insns[i];grind;dsimp only;rw[Bool.not_true,cdF,w64 oM oM,f10_l1_eq t k a b ha ho hl n (i+1) _ (by push_cast;rfl) oM oM,Bool.true_and];grind
def tC(x:aJ):Bool:=decide (x.op=29)||(decide (x.op=33)||(decide (x.op=34)||decide (x.op=57)))
def tE(t:aC):Bool:=match idx t.insns ((t.insns.length:Int) - 1) with
 |some x=>tC x
 |none=>false
def MayB(t:aC):Bool:= !(decide ((t.insns.length:Int)<1)||decide ((t.insns.length:Int)>65536))&&(tE t&&(kL t&&(hY t&&(kO t&&(kH t&&(nV t&&(me t&&(tt t&&(ni t (-1) t.checks&&t.insns.all (pD t))))))))))
theorem f10_eq(t:aC)(h:Sz t):f10 t=some (MayB t):=by
 unfold f10 MayB;cases h1:decide ((t.insns.length:Int)<1)||decide ((t.insns.length:Int)>65536);have hol:(1:Int)<=t.insns.length/\(t.insns.length:Int)<=65536:=by simp_all
 obtain⟨x,hx,_⟩:=cS (L:=t.insns) (i:=(t.insns.length:Int) - 1) oM;unfold tE;rw[cdF,w64 oM oM,hx,bnS];simp only[bo];rw[f27_eq t h.inits h.sets,f28_eq,f29_eq t h.lists,f30_eq t h.prots,f31_eq,f32_eq,f33_eq,f34_eq t h.checks];rw[f10_l1_eq t _ (some false) _ (λi h0=>by rw[dcT (show i>=0 from h0)];rfl) h.ops oM _ 0 0 rfl (Nat.zero_le _) oM,List.drop_zero];unfold tC;generalize kL t=b1,hY t=b2,kO t=b3,kH t=b4,nV t=b5,me t=b6,tt t=b7,ni t (-1) t.checks=b8,t.insns.all (pD t)=b9;have key:∀b:Bool,(bif b then(some b1).bind λr69=>bif !r69 then some false else(some b2).bind λr70=>bif !r70 then some false else(some b3).bind λr71=>bif !r71 then some false else(some b4).bind λr72=>bif !r72 then some false else(some b5).bind λr73=>bif !r73 then some false else(some b6).bind λr74=>bif !r74 then some false else(some b7).bind λr75=>bif !r75 then some false else(some b8).bind λr76=>bif !r76 then some false else bif b9 then some (!decide ((-1:Int)>=0)) else some false else some false)=some (b&&(b1&&(b2&&(b3&&(b4&&(b5&&(b6&&(b7&&(b8&&b9))))))))):=by grind
 grind;rfl
structure VT(t:aC):Prop where
 sz:Sz t
 n:1<=t.insns.length/\t.insns.length<=65536
 objs:t.objs.length<=4096
 excs:4<=t.excs/\t.excs<=64
 obj:∀o∈t.objs,gV t.objs o=true
 inits:fN t.objs [] t.inits=true
 hdls:t.handlers.length<=4096
 fits:∀x∈t.insns,pD t x=true
 last:tE t=true
 hok:jw t [] t.handlers=true
theorem ww{t:aC}(hs:Sz t)(h:MayB t=true):VT t:=by unfold MayB kL me at h;simp only[Bool.and_eq_true,Bool.not_eq_true',Bool.or_eq_false_iff,decide_eq_false_iff_not,List.all_eq_true] at h;exact⟨hs,oM,oM,oM,h.2.2.1.2.1,h.2.2.1.2.2.1,oM,h.2.2.2.2.2.2.2.2.2.2,h.2.1,h.2.2.2.2.2.2.2.1.2⟩
theorem lX{os:List Obj}:∀(L:List Int)(last:Int),lY os last L=true->-1<=last->last<os.length->(L.length:Int)+last+1<=os.length
 |[],last,_,h1,h2=>by simp;omega
 |x::r,last,h,h1,h2=>by
  simp only[lY,Bool.and_eq_true,decide_eq_true_eq] at h;have hx:x<os.length:=by
   have:=h.1.2;unfold aim at this;cases hi:idx os x with
   |none=>rw[hi] at this;cases this
   |some y=>exact(kT hi).2
  have:=lX r x h.2 oM hx;simp;omega
theorem uV{os:List Obj}{o:Obj}(h:gV os o=true)(hn:0<os.length):1<=o.size/\o.size<=16384/\o.lo<=o.hi/\(o.set_.length:Int)<=os.length:=by unfold gV at h;simp only[Bool.and_eq_true,Bool.not_eq_true',Bool.or_eq_false_iff,decide_eq_false_iff_not] at h;refine⟨oM,oM,oM,?_⟩;cases hp:o.ptr;have h2:=h.2;rw[hp] at h2;simp only[Bool.not_false,cdT,decide_eq_true_eq] at h2;omega;have h2:=h.2;rw[hp] at h2;simp only[Bool.not_true,cdF,Bool.and_eq_true] at h2;have:=lX _ _ h2.1 oM oM;omega
theorem VT.o{t:aC}(h:VT t){o:Obj}(ho:o∈t.objs):1<=o.size/\o.size<=16384/\o.lo<=o.hi/\(o.set_.length:Int)<=4096:=by have h2:=h.objs;have:=uV (h.obj o ho) (List.length_pos_of_mem ho);omega
def neI(x y:bq):Bool:= !(decide (y.o=x.o)&&decide (y.slot=x.slot))
def jv(os:List Obj):List bq->List bq->Bool
 |_,[]=>true
 |P,x::r=>(eO os x&&P.all (neI x))&&jv os (P++ [x]) r
theorem rM(P:List bq)(m:List ((Int×Int)×Bool))(x:bq):inM (P.foldl (λm x=>cm m (x.o,x.slot) true) m) (x.o,x.slot)=(inM m (x.o,x.slot)|| !(P.all (neI x))):=by
 induction P generalizing m with
 |nil=>simp
 |cons y P ih=>
  rw[List.foldl_cons,ih,vB,List.all_cons];have:decide ((y.o,y.slot)=(x.o,x.slot))= !(neI x y):=by unfold neI;rw[Bool.not_not];by_cases h1:y.o=x.o;by_cases h2:y.slot=x.slot;simp[h1,h2];simp[h1,h2];simp[h1]
  rw[this];cases neI x y<;>cases inM m (x.o,x.slot)<;>simp
theorem md(os:List Obj):∀(r P:List bq),jv os P r=fN os (P.foldl (λm x=>cm m (x.o,x.slot) true) []) r
 |[],P=>rfl
 |x::r,P=>by
  rw[jv,fN,md os r (P++ [x]),List.foldl_append,rM];have e:inM ([]:List ((Int×Int)×Bool)) (x.o,x.slot)=false:=rfl;rw[e,Bool.false_or,Bool.not_not];simp only[List.foldl_cons,List.foldl_nil];cases eO os x<;>cases P.all (neI x)<;>rfl
theorem pw:∀(N:Nat)(L:List Nat),L.Nodup->(∀x∈L,x<N)->L.length<=N
 |0,[],_,_=>Nat.le_refl _
 |0,x::L,_,h=>absurd (h x List.mem_cons_self) (Nat.not_lt_zero _)
 |N+1,L,hn,h=>by
  by_cases hm:N∈L;have h1:=List.length_erase_of_mem hm;have h2:=pw N (L.erase N) (hn.erase N) (λx hx=>by
   have h3:=h x (List.mem_of_mem_erase hx);have h4:x≠N:=λe=>by subst e;exact hn.not_mem_erase hx
   omega)
  omega;have:=pw N L hn (λx hx=>by
   have h3:=h x hx;have h4:x≠N:=λe=>hm (e▸hx);omega)
  omega
def szS(L:List Obj):Nat:=(L.map λo=>o.size.toNat).sum
theorem qg:∀(L:List Obj)(a:Int),(∀o∈L,1<=o.size/\o.size<=16384)->0<=a->a+16384*(L.length:Int)<=9223372036854775807->pj a L=a+(szS L:Int)
 |[],a,_,_,_=>by simp[pj,szS]
 |o::L,a,h,h0,h1=>by
  have ho:=h o List.mem_cons_self;have hl:((o::L).length:Int)=(L.length:Int)+1:=sM;rw[hl] at h1;have ih:=qg L (a+o.size) (λx hx=>h x (List.mem_cons_of_mem _ hx)) oM oM;have e1:pj a (o::L)=pj (a+o.size) L:=by show pj (i64.wrap (a+o.size)) L=_;rw[w64 oM oM]
  have e2:szS (o::L)=o.size.toNat+szS L:=by simp[szS]
  rw[e1,ih,e2];push_cast;omega
theorem iF{L:List Obj}{i:Nat}(h:i<L.length):szS (L.take (i+1))=szS (L.take i)+L[i].size.toNat:=by unfold szS;rw[List.take_succ_eq_append_getElem h,List.map_append,List.sum_append,List.map_cons,List.map_nil,List.sum_cons,List.sum_nil,Nat.add_zero]
theorem kC{L:List Obj}:∀{i j:Nat},i<=j->szS (L.take i)<=szS (L.take j):=by
 intro i j h;induction h with
 |refl=>exact Nat.le_refl _
 |step h ih=>
  rename_i m;by_cases hm:m<L.length;rw[iF hm];omega;have e:L.take (m+1)=L.take m:=by rw[List.take_of_length_le oM,List.take_of_length_le oM]
  rw[e];exact ih
def pos(os:List Obj)(x:bq):Nat:=szS (os.take x.o.toNat)+x.slot.toNat
theorem il{os:List Obj}(ho:∀o∈os,1<=o.size/\o.size<=16384){x:bq}(h:eO os x=true):0<=x.o/\x.o.toNat<os.length/\0<=x.slot/\∀h:x.o.toNat<os.length,x.slot.toNat<os[x.o.toNat].size.toNat:=by
 unfold eO at h;rw[Bool.and_eq_true] at h;obtain⟨y,hy,h1,h2⟩:=qi h.1;have hb:=kT hy;have hsz:=ho y (qD hy);rw[w64 oM oM] at h2;refine⟨hb.1,oM,h1,λhh=>?_⟩;have e:os[x.o.toNat]=y:=by have:=bJ hh;rw[show((x.o.toNat:Nat):Int)=x.o by omega,hy] at this;exact(inS this).symm
 rw[e];omega
theorem xw{os:List Obj}(ho:∀o∈os,1<=o.size/\o.size<=16384){x:bq}(h:eO os x=true):pos os x<szS os:=by obtain⟨_,h1,_,h2⟩:=il ho h;have h3:=h2 h1;have h4:=iF h1;have h5:=kC (L:=os) (i:=x.o.toNat+1) (j:=os.length) oM;rw[List.take_length] at h5;unfold pos;omega
theorem uQ{os:List Obj}(ho:∀o∈os,1<=o.size/\o.size<=16384){x y:bq}(hx:eO os x=true)(hy:eO os y=true)(h:pos os x=pos os y):x.o=y.o/\x.slot=y.slot:=by
 obtain⟨a0,a1,a2,a3⟩:=il ho hx;obtain⟨b0,b1,b2,b3⟩:=il ho hy;have a4:=a3 a1;have b4:=b3 b1;have a5:=iF a1;have b5:=iF b1;unfold pos at h;rcases Nat.lt_trichotomy x.o.toNat y.o.toNat with hlt|heq|hgt
 have:=kC (L:=os) (i:=x.o.toNat+1) (j:=y.o.toNat) hlt;omega;rw[heq] at h;omega;have:=kC (L:=os) (i:=y.o.toNat+1) (j:=x.o.toNat) hgt;omega
theorem jV{os:List Obj}(ho:∀o∈os,1<=o.size/\o.size<=16384):∀(r P:List bq),jv os P r=true->(∀x∈P,eO os x=true)->(P.map (pos os)).Nodup->((P++r).map (pos os)).Nodup/\∀x∈P++r,eO os x=true
 |[],P,_,h1,h2=>by rw[List.append_nil];exact⟨h2,h1⟩
 |x::r,P,h,h1,h2=>by
  rw[jv] at h;simp only[Bool.and_eq_true] at h;obtain⟨⟨hx,hP⟩,hr⟩:=h;have ih:=jV ho r (P++ [x]) hr (λy hy=>by
   rcases List.mem_append.1 hy with hy|hy
   exact h1 y hy;rw[List.mem_singleton] at hy;subst hy;exact hx) (by
   rw[List.map_append,List.nodup_append];refine⟨h2,sM,λa ha b hb=>?_⟩;simp only[List.map_cons,List.map_nil,List.mem_singleton] at hb;subst hb;intro e;obtain⟨y,hy,rfl⟩:=List.mem_map.1 ha;have hi:=uQ ho (h1 y hy) hx e;have:=List.all_eq_true.1 hP y hy;unfold neI at this;rw[dcT hi.1,dcT hi.2] at this;cases this)
  rw[List.append_assoc,List.singleton_append] at ih;exact ih
theorem rJ{os:List Obj}(h:os.all (gV os)=true):∀o∈os,1<=o.size/\o.size<=16384:=λo ho=>by
 have:=List.all_eq_true.1 h o ho;unfold gV at this;simp only[Bool.and_eq_true,Bool.not_eq_true',Bool.or_eq_false_iff,decide_eq_false_iff_not] at this;omega
theorem rU{t:aC}(hT:hY t=true){x:aK}(hx:x∈t.tasks){e:aB}(he:e∈x.entries):(e.ins.length:Int)<=8/\(e.outs.length:Int)<=8:=by unfold hY at hT;rw[Bool.and_eq_true] at hT;have:=List.all_eq_true.1 hT.2 x hx;unfold jn at this;rw[Bool.and_eq_true] at this;have:=List.all_eq_true.1 this.2 e he;unfold fR fP at this;simp only[Bool.and_eq_true,decide_eq_true_eq] at this;exact⟨this.1.1,this.2.1⟩
theorem ue{t:aC}{a:Int}(h:chk t a=true):∃x,idx t.insns a=some x/\(x.op=27\/x.op=28):=by
 unfold chk at h;cases hx:idx t.insns a with
 |none=>rw[hx] at h;cases h
 |some x=>rw[hx] at h;simp only[Bool.or_eq_true,decide_eq_true_eq] at h;exact⟨x,rfl,h⟩
theorem yg{t:aC}{a:Int}(h:chk t a=true):0<=a/\a<t.insns.length:=by obtain⟨x,hx,_⟩:=ue h;exact kT hx
theorem qT{t:aC}:∀(L:List bf)(last:Int),ni t last L=true->-1<=last->last<t.insns.length->(L.length:Int)+last+1<=t.insns.length
 |[],last,_,h1,h2=>by simp;omega
 |x::r,last,h,h1,h2=>by
  simp only[ni,Bool.and_eq_true,decide_eq_true_eq] at h;have hx:=yg h.1.1.2;have:=qT r x.at_ h.2 oM hx.2;simp;omega
theorem rL{t:aC}(hm:kL t=true):t.inits.length<=65536:=by
 unfold kL at hm;simp only[Bool.and_eq_true,Bool.not_eq_true',Bool.or_eq_false_iff,decide_eq_false_iff_not,decide_eq_true_eq] at hm;obtain⟨h1,h2,h3,h4⟩:=hm;have ho:=rJ h2;have hi:jv t.objs [] t.inits=true:=by rw[<-h3];exact md t.objs t.inits []
 obtain⟨n1,n2⟩:=jV ho t.inits [] hi sM sM;rw[List.nil_append] at n1 n2;have hp:=pw (szS t.objs) _ n1 (λx hx=>by
  obtain⟨y,hy,rfl⟩:=List.mem_map.1 hx;exact xw ho (n2 y hy))
 rw[List.length_map] at hp;rw[qg t.objs 0 ho oM oM] at h4;omega
structure Bdt(t:aC):Prop where
 n:t.insns.length<=65536
 handlers:t.handlers.length<=4096
 loops:t.loops.length<=4096
 selects:t.selects.length<=1024
 alts:∀x∈t.selects,x.alts.length<=16
 lists:t.lists.length<=4096
 list:∀l∈t.lists,l.length<=32
 objs:t.objs.length<=4096
 sets:∀o∈t.objs,o.set_.length<=4096
 inits:t.inits.length<=65536
 tasks:t.tasks.length<=32
 entries:∀x∈t.tasks,x.entries.length<=8
 forms:∀x∈t.tasks,∀e∈x.entries,e.ins.length<=8/\e.outs.length<=8
 prots:t.prots.length<=32
 bars:∀p∈t.prots,p.barriers.length<=8/\∀b∈p.barriers,mr t p.barriers.length b=true
 checks:t.checks.length<=65536
theorem Bdt.of{t:aC}(hs:Sz t)(h:MayB t=true):Bdt t:=by have hv:=ww hs h;unfold MayB at h;simp only[Bool.and_eq_true,Bool.not_eq_true',Bool.or_eq_false_iff,decide_eq_false_iff_not,List.all_eq_true] at h;obtain⟨hn,hlast,hobj,htask,hlist,hprot,hsel,hhdl,hlp,hck,hfit⟩:=h;have htask':=htask;unfold hY at htask;unfold kO at hlist;unfold kH at hprot;unfold nV at hsel;unfold me at hhdl;unfold tt at hlp;simp only[Bool.and_eq_true,Bool.not_eq_true',Bool.or_eq_false_iff,decide_eq_false_iff_not,decide_eq_true_eq,List.all_eq_true] at htask hlist hprot hsel hhdl hlp;refine⟨oM,oM,oM,oM,?_,oM,?_,hv.objs,λo ho=>by have:=(hv.o ho).2.2.2;omega,rL hobj,oM,?_,λx hx e he=>by have:=rU htask' hx he;omega,oM,?_,?_⟩;intro x hx;have:=hsel.2 x hx;unfold nW at this;simp only[Bool.and_eq_true,Bool.not_eq_true',Bool.or_eq_false_iff,decide_eq_false_iff_not] at this;omega;intro l hl;have:=hlist.2 l hl;unfold oq at this;simp only[Bool.and_eq_true,Bool.not_eq_true',decide_eq_false_iff_not] at this;omega;intro x hx;have:=htask.2 x hx;unfold jn at this;simp only[Bool.and_eq_true,Bool.not_eq_true',Bool.or_eq_false_iff,decide_eq_false_iff_not] at this;omega;intro p hp;have:=hprot.1 p hp;unfold mO at this;simp only[Bool.and_eq_true,Bool.not_eq_true',Bool.or_eq_false_iff,decide_eq_false_iff_not,List.all_eq_true] at this;exact⟨oM,this.2⟩;have:=qT t.checks (-1) hck oM oM;omega
mutual
def RgE:ae->Prop
 | .mk a b c d x f g h l=>(cN.ok a/\cN.ok b/\i64 c/\i64 d/\i64 x/\i64 f/\i64 g/\i64 h)/\l.length<9223372036854775808/\RgEs l
def RgEs:List ae->Prop
 |[]=>True
 |e::l=>RgE e/\RgEs l
end
theorem q':∀{l:List ae},(∀e∈l,RgE e)->RgEs l
 |[],_=>by rw[RgEs];trivial
 |e::l,h=>by
  rw[RgEs];exact⟨h e List.mem_cons_self,q' λx hx=>h x (List.mem_cons_of_mem _ hx)⟩
structure RgT(t:aC):Prop where
 code:mm.ok (t.insns,t.handlers,t.loops,t.selects,t.lists)
 objs:(liC gq).ok t.objs
 inits:(liC im).ok t.inits
 excs:aY.ok t.excs
 tasks:(liC gg).ok t.tasks
 prots:t.prots.length<9223372036854775808/\∀p∈t.prots,aY.ok p.ceiling/\p.barriers.length<9223372036854775808/\∀e∈p.barriers,RgE e
 checks:(liC gQ).ok t.checks
theorem RgT.sz{t:aC}(h:RgT t):Sz t:=
 ⟨λx hx=>(h.code.1.2 x hx).1,h.inits.1,λo ho=>(h.objs.2 o ho).2.2.2.2.1,λl hl=>(h.code.2.2.2.2.2 l hl).1,h.prots.1,h.checks.1⟩
theorem tU{α:Type}{c:α->Bs}{k:Nat}:∀{L:List α},(∀x∈L,(c x).length<=k)->(L.flatMap c).length<=L.length*k
 |[],_=>sM
 |x::L,h=>by
  have h1:=h x List.mem_cons_self;have h2:=tU λy hy=>h y (List.mem_cons_of_mem _ hy);rw[List.flatMap_cons,List.length_append,List.length_cons,Nat.succ_mul];omega
theorem dQ{α:Type}{c:Cod α}{k:Nat}{L:List α}(h:∀x∈L,(c.enc x).length<=k):((liC c).enc L).length<=8+L.length*k:=by show(e8 (L.length:Int)++L.flatMap c.enc).length<=_;rw[List.length_append,bV];have:=tU (c:=c.enc) h;omega
theorem jB(rec:Int->ae->Bool×Int)(c:Cod ae)(hg:∀left e,RgE e->0<=left->left<=256->(rec left e).1=true->0<=(rec left e).2/\(rec left e).2<=left/\c.ok e/\(c.enc e).length<=72*(left - (rec left e).2).toNat):
  ∀(L:List ae)(left:Int),RgEs L->0<=left->left<=256->(exL rec L left).1=true->0<=(exL rec L left).2/\(exL rec L left).2<=left/\(∀e∈L,c.ok e)/\(L.flatMap c.enc).length<=72*(left - (exL rec L left).2).toNat
 |[],left,_,h0,_,_=>by rw[exL];exact⟨h0,Int.le_refl _,sM,sM⟩
 |e::L,left,hr,h0,h1,h=>by
  rw[RgEs] at hr;rw[exL] at h⊢;cases hc:(rec left e).1 with
  |false=>simp only[hc,cdF] at h;cases h
  |true=>
   simp only[hc,cdT] at h⊢;obtain⟨g1,g2,g3,g4⟩:=hg left e hr.1 h0 h1 hc;obtain⟨i1,i2,i3,i4⟩:=jB rec c hg L _ hr.2 g1 oM h;refine⟨i1,oM,λx hx=>?_,?_⟩;rcases List.mem_cons.1 hx with rfl|hx
   exact g3;exact i3 x hx;rw[List.flatMap_cons,List.length_append];omega
theorem wM(os:List Obj)(ent:Int)(k:Nat):∀(n:Nat)(deep left:Int)(e:ae),RgE e->0<=left->left<=256->(exF os ent n deep left e).1=true->0<=(exF os ent n deep left e).2/\(exF os ent n deep left e).2<=left/\(exC (n+k)).ok e/\((exC (n+k)).enc e).length<=72*(left - (exF os ent n deep left e).2).toNat
 |0,deep,left,e,_,_,_,h=>by rw[exF] at h;cases h
 |n+1,deep,left, .mk a b c d x f g q l,hr,h0,h1,h=>by
  rw[RgE] at hr;rw[exF] at h⊢;cases hc:(decide (i64.wrap (left - 1)<0)||decide (deep>64))||fp os ent (.mk a b c d x f g q l) with
  |true=>simp only[hc,cdT] at h;cases h
  |false=>
   simp only[hc,cdF] at h⊢;simp only[Bool.or_eq_false_iff,decide_eq_false_iff_not] at hc;have hw:i64.wrap (left - 1)=left - 1:=w64 oM oM;rw[hw] at h⊢;have hl:0<=left - 1:=by have:=hc.1.1;rw[hw] at this;omega
   obtain⟨i1,i2,i3,i4⟩:=jB (exF os ent n (deep+1)) (exC (n+k)) (λlf y hy=>wM os ent k n (deep+1) lf y hy) l (left - 1) hr.2.2 hl oM h;refine⟨i1,oM,?_,?_⟩;rw[show n+1+k=(n+k)+1 by omega];exact⟨hr.1,hr.2.1,i3⟩;rw[show n+1+k=(n+k)+1 by omega];have e1:((exC (n+k+1)).enc (.mk a b c d x f g q l)).length=72+(l.flatMap (exC (n+k)).enc).length:=by show((e8 a++(e8 b++(e8 c++(e8 d++(e8 x++(e8 f++(e8 g++e8 q)))))))++(e8 (l.length:Int)++l.flatMap (exC (n+k)).enc)).length=_;simp only[List.length_append,bV];omega
   rw[e1];omega
theorem ui{t:aC}{ent:Int}{e:ae}(hr:RgE e)(h:mr t ent e=true)(k:Nat):(exC (66+k)).ok e/\((exC (66+k)).enc e).length<=18432:=by obtain⟨h1,h2,h3,h4⟩:=wM t.objs ent k 66 1 256 e hr oM oM h;exact⟨h3,oM⟩
theorem xi{t:aC}(hr:RgT t)(hm:MayB t=true)(k:Nat):(cA (66+k)).ok t/\((cA (66+k)).enc t).length<=200000000:=by
 have hb:=Bdt.of hr.sz hm;have hp:∀p∈t.prots,(ib (66+k)).ok p/\((ib (66+k)).enc p).length<=147472:=λp hp=>by
  have h1:=hr.prots.2 p hp;have h2:=hb.bars p hp;have h3:=dQ (c:=exC (66+k)) (k:=18432) (L:=p.barriers) λe he=>(ui (h1.2.2 e he) (h2.2 e he) k).2;refine⟨⟨h1.1,h1.2.1,λe he=>(ui (h1.2.2 e he) (h2.2 e he) k).1⟩,?_⟩;show(e8 p.ceiling++(liC (exC (66+k))).enc p.barriers).length<=_;rw[List.length_append,bV];omega
 refine⟨⟨hr.code,hr.objs,hr.inits,hr.excs,hr.tasks,⟨hr.prots.1,λp h=>(hp p h).1⟩,hr.checks⟩,?_⟩;have c1:=dQ (c:=ik) (k:=56) (L:=t.insns) λx _=>by simp[ik,Cod.two,aY,cN,bV]
 have c2:=dQ (c:=iT) (k:=32) (L:=t.handlers) λx _=>by simp[iT,Cod.two,aY,nl,bV]
 have c3:=dQ (c:=iN) (k:=24) (L:=t.loops) λx _=>by simp[iN,Cod.two,aY,bV]
 have c4:=dQ (c:=gP) (k:=664) (L:=t.selects) λx hx=>by
  have h1:=hb.alts x hx;have h2:=dQ (c:=ja) (k:=40) (L:=x.alts) λx _=>by simp[ja,Cod.two,aY,cN,bV]
  have e:(gP.enc x).length=((liC ja).enc x.alts).length+16:=by simp[gP,Cod.two,aY,bV]
  omega
 have ci:∀L:List Int,((liC aY).enc L).length<=8+L.length*8:=λL=>dQ (c:=aY) (k:=8) λx _=>by simp[aY,bV]
 have c5:=dQ (c:=liC aY) (k:=264) (L:=t.lists) λx hx=>by
  have h1:=hb.list x hx;have h2:=ci x;omega
 have c6:=dQ (c:=gq) (k:=32808) (L:=t.objs) λx hx=>by
  have h1:=hb.sets x hx;have h2:=ci x.set_;have e:(gq.enc x).length=32+((liC aY).enc x.set_).length:=by simp[gq,Cod.two,aY,nl,bV];omega
  omega
 have c7:=dQ (c:=im) (k:=24) (L:=t.inits) λx _=>by simp[im,Cod.two,aY,bV]
 have c9:=dQ (c:=gg) (k:=1184) (L:=t.tasks) λx hx=>by
  have h1:=hb.entries x hx;have h2:=dQ (c:=jC) (k:=144) (L:=x.entries) λy hy=>by
   have g1:=hb.forms x hx y hy;have g2:=ci y.ins;have g3:=ci y.outs;show((liC aY).enc y.ins++(liC aY).enc y.outs).length<=_;rw[List.length_append];omega
  have e:(gg.enc x).length=24+((liC jC).enc x.entries).length:=by simp[gg,Cod.two,aY,bV];omega
  omega
 have c10:=dQ (c:=ib (66+k)) (k:=147472) (L:=t.prots) λp h=>(hp p h).2;have c11:=dQ (c:=gQ) (k:=16) (L:=t.checks) λx _=>by simp[gQ,Cod.two,aY,cN,bV]
 have e:((cA (66+k)).enc t).length=((liC ik).enc t.insns).length+((liC iT).enc t.handlers).length+((liC iN).enc t.loops).length+((liC gP).enc t.selects).length+((liC (liC aY)).enc t.lists).length+((liC gq).enc t.objs).length+((liC im).enc t.inits).length+8+((liC gg).enc t.tasks).length+((liC (ib (66+k))).enc t.prots).length+((liC gQ).enc t.checks).length:=by show(((liC ik).enc t.insns++((liC iT).enc t.handlers++((liC iN).enc t.loops++((liC gP).enc t.selects++(liC (liC aY)).enc t.lists))))++((liC gq).enc t.objs++((liC im).enc t.inits++(e8 t.excs++((liC gg).enc t.tasks++((liC (ib (66+k))).enc t.prots++(liC gQ).enc t.checks)))))).length=_;simp only[List.length_append,bV];omega
 have b1:=hb.n;have b2:=hb.handlers;have b3:=hb.loops;have b4:=hb.selects;have b5:=hb.lists;have b6:=hb.objs;have b7:=hb.inits;have b8:=hb.tasks;have b9:=hb.prots;have b10:=hb.checks;omega
def Tot{α:Type}(x:Option α):Prop:=∃r,x=some r
theorem Tot.cb{α:Type}{c:Bool}{a b:Option α}(h1:c=true->Tot a)(h2:c=false->Tot b):Tot (bif c then a else b):=by cases c;exact h2 rfl;exact h1 rfl
theorem tL(t:aC)(k:Int->Option Bool)(hk:∀n,Tot (k n))(hl:t.selects.length<9223372036854775808):∀(n i:Nat)(a z:Int),z=(i:Int)->i<=t.selects.length->t.selects.length<n+i->Tot (f8_l1 t k n a z)
 |0,i,a,z,_,_,h=>oM
 |n+1,i,a,z,hz,hi,h=>by
  subst hz;rw[f8_l1];by_cases hh:i<t.selects.length;rw[dcT (by omega:(i:Int)<(t.selects.length:Int)),cdT,bJ hh,bnS,w64 (x:=(i:Int)+1) oM oM];exact tL t k hk hl n (i+1) _ _ (by push_cast;rfl) oM oM;rw[dcF (by omega:¬(i:Int)<(t.selects.length:Int)),cdF];exact hk _
theorem tK(t:aC)(k:Int->Option Bool)(hk:∀n,Tot (k n))(hl:t.lists.length<9223372036854775808):∀(n i:Nat)(a z:Int),z=(i:Int)->i<=t.lists.length->t.lists.length<n+i->Tot (f8_l2 t k n a z)
 |0,i,a,z,_,_,h=>oM
 |n+1,i,a,z,hz,hi,h=>by
  subst hz;rw[f8_l2];by_cases hh:i<t.lists.length;rw[dcT (by omega:(i:Int)<(t.lists.length:Int)),cdT,bJ hh,bnS,w64 (x:=(i:Int)+1) oM oM];exact tK t k hk hl n (i+1) _ _ (by push_cast;rfl) oM oM;rw[dcF (by omega:¬(i:Int)<(t.lists.length:Int)),cdF];exact hk _
theorem tJ(t:aC)(k:Int->Option Bool)(hk:∀n,Tot (k n))(hl:t.objs.length<9223372036854775808):∀(n i:Nat)(a z:Int),z=(i:Int)->i<=t.objs.length->t.objs.length<n+i->Tot (f8_l3 t k n a z)
 |0,i,a,z,_,_,h=>oM
 |n+1,i,a,z,hz,hi,h=>by
  subst hz;rw[f8_l3];by_cases hh:i<t.objs.length;rw[dcT (by omega:(i:Int)<(t.objs.length:Int)),cdT,bJ hh,bnS,bnS,w64 (x:=(i:Int)+1) oM oM];exact tJ t k hk hl n (i+1) _ _ (by push_cast;rfl) oM oM;rw[dcF (by omega:¬(i:Int)<(t.objs.length:Int)),cdF];exact hk _
theorem tH(t:aC)(u:Nat)(hu:u<t.tasks.length)(k:Int->Option Bool)(hk:∀n,Tot (k n)):∀(n i:Nat)(a z:Int),z=(i:Int)->i<=100->100<n+i->Tot (f8_l5 t (u:Int) k n a z)
 |0,i,a,z,_,_,h=>oM
 |n+1,i,a,z,hz,hi,h=>by
  subst hz;rw[f8_l5];rw[bJ hu,bnS];refine Tot.cb (λhc=>?_) (λ_=>hk _);rw[Bool.and_eq_true,decide_eq_true_eq,decide_eq_true_eq] at hc;have hh:i<t.tasks[u].entries.length:=oM;simp only[bnS,bJ hh,w64 (x:=(i:Int)+1) oM oM];exact tH t u hu k hk n (i+1) _ _ (by push_cast;rfl) oM oM
theorem tI(t:aC)(k:Int->Option Bool)(hk:∀n,Tot (k n))(hl:t.tasks.length<9223372036854775808):∀(n i:Nat)(a z:Int),z=(i:Int)->i<=t.tasks.length->t.tasks.length<n+i->Tot (f8_l4 t k n a z)
 |0,i,a,z,_,_,h=>oM
 |n+1,i,a,z,hz,hi,h=>by
  subst hz;rw[f8_l4];refine Tot.cb (λhc=>?_) (λ_=>hk _);rw[Bool.and_eq_true,decide_eq_true_eq] at hc;have hh:i<t.tasks.length:=oM;rw[bo,bo];refine tH t i hh _ (λb=>?_) _ 0 _ _ rfl oM oM;rw[bJ hh,bnS,w64 (x:=(i:Int)+1) oM oM];exact tI t k hk hl n (i+1) _ _ (by push_cast;rfl) oM oM
theorem qR{e:ae}:∀{l:List ae},e∈l->pE e<=depL l
 |[],h=>by cases h
 |x::l,h=>by
  rw[depL];rcases List.mem_cons.1 h with rfl|h
  omega;have:=qR h;omega
theorem sD(rec_:ae->Option Int)(e:ae)(k:Int->Option Int)(hk:∀n,Tot (k n))(hr:∀x∈e.l,Tot (rec_ x))(N:Nat):∀(n i:Nat)(a z:Int),z=(i:Int)->i<=e.l.length->e.l.length<9223372036854775808->e.l.length<n+i->Tot (f24s_l1 rec_ e k n a z)
 |0,i,a,z,_,_,_,h=>oM
 |n+1,i,a,z,hz,hi,hl,h=>by
  subst hz;rw[f24s_l1];refine Tot.cb (λhc=>?_) (λ_=>hk _);rw[Bool.and_eq_true,decide_eq_true_eq] at hc;have hh:i<e.l.length:=oM;obtain⟨r,h1⟩:=hr _ (List.getElem_mem hh);rw[bJ hh,bnS,h1,bnS,w64 (x:=(i:Int)+1) oM oM];exact sD rec_ e k hk hr N n (i+1) _ _ (by push_cast;rfl) oM hl oM
mutual
def SzE:ae->Prop
 | .mk _ _ _ _ _ _ _ _ l=>l.length<9223372036854775808/\SzEs l
def SzEs:List ae->Prop
 |[]=>True
 |e::l=>SzE e/\SzEs l
end
theorem oV{e:ae}:∀{l:List ae},SzEs l->e∈l->SzE e
 |[],_,h=>by cases h
 |x::l,h,hm=>by
  rw[SzEs] at h;rcases List.mem_cons.1 hm with rfl|hm
  exact h.1;exact oV h.2 hm
theorem f24_tot:∀(n:Nat)(e:ae),SzE e->pE e<=n->Tot (f24 n e)
 |0, .mk a b c d x f g h l,_,hd=>by rw[pE] at hd;omega
 |n+1, .mk a b c d x f g h l,hs,hd=>by
  rw[pE] at hd;rw[SzE] at hs;show Tot (f24s (f24 n) _);unfold f24s;rw[bo];refine sD (f24 n) _ _ (λn=>⟨_,rfl⟩) (λy hy=>f24_tot n y (oV hs.2 hy) (by have:=qR hy;dsimp only at this;omega)) 0 _ 0 _ _ rfl (Nat.zero_le _) hs.1 (by have:=hs.1;dsimp only;omega)
theorem tF(t:aC)(u:Nat)(hu:u<t.prots.length)(k:Int->Option Bool)(hk:∀n,Tot (k n))(hp:∀p∈t.prots,∀b∈p.barriers,SzE b):∀(n i:Nat)(a z:Int),z=(i:Int)->i<=100->100<n+i->Tot (f8_l7 t (u:Int) k n a z)
 |0,i,a,z,_,_,h=>oM
 |n+1,i,a,z,hz,hi,h=>by
  subst hz;rw[f8_l7];rw[bJ hu,bnS];refine Tot.cb (λhc=>?_) (λ_=>hk _);rw[Bool.and_eq_true,Bool.and_eq_true,decide_eq_true_eq,decide_eq_true_eq] at hc;have hh:i<t.prots[u].barriers.length:=oM;obtain⟨r,h1⟩:=f24_tot _ t.prots[u].barriers[i] (hp _ (List.getElem_mem hu) _ (List.getElem_mem hh)) (Nat.le_refl _);have h1:f24w t.prots[u].barriers[i]=some r:=h1;simp only[bnS,bJ hh,h1,w64 (x:=(i:Int)+1) oM oM];exact tF t u hu k hk hp n (i+1) _ _ (by push_cast;rfl) oM oM
theorem tG(t:aC)(k:Int->Option Bool)(hk:∀n,Tot (k n))(hl:t.prots.length<9223372036854775808)(hp:∀p∈t.prots,∀b∈p.barriers,SzE b):∀(n i:Nat)(a z:Int),z=(i:Int)->i<=t.prots.length->t.prots.length<n+i->Tot (f8_l6 t k n a z)
 |0,i,a,z,_,_,h=>oM
 |n+1,i,a,z,hz,hi,h=>by
  subst hz;rw[f8_l6];refine Tot.cb (λhc=>?_) (λ_=>hk _);rw[Bool.and_eq_true,decide_eq_true_eq] at hc;have hh:i<t.prots.length:=oM;rw[bo,bJ hh,bnS];refine tF t i hh _ (λb=>?_) hp _ 0 _ _ rfl oM oM;rw[w64 (x:=(i:Int)+1) oM oM];exact tG t k hk hl hp n (i+1) _ _ (by push_cast;rfl) oM oM
structure SzL(t:aC):Prop where
 handlers:t.handlers.length<9223372036854775808
 selects:t.selects.length<9223372036854775808
 lists:t.lists.length<9223372036854775808
 objs:t.objs.length<9223372036854775808
 tasks:t.tasks.length<9223372036854775808
 prots:t.prots.length<9223372036854775808
 exprs:∀p∈t.prots,∀b∈p.barriers,SzE b
theorem f8_tot(t:aC)(h:SzL t):∃b,f8 t=some b:=by
 have key:Tot (f8 t):=by unfold f8;refine Tot.cb (λ_=>⟨_,rfl⟩) (λ_=>?_);rw[bo];refine tL t _ (λn=>?_) h.selects _ 0 _ _ rfl (Nat.zero_le _) (by have:=h.selects;omega);rw[bo];refine tK t _ (λn=>?_) h.lists _ 0 _ _ rfl (Nat.zero_le _) (by have:=h.lists;omega);rw[bo];refine tJ t _ (λn=>?_) h.objs _ 0 _ _ rfl (Nat.zero_le _) (by have:=h.objs;omega);rw[bo];refine tI t _ (λn=>?_) h.tasks _ 0 _ _ rfl (Nat.zero_le _) (by have:=h.tasks;omega);rw[bo];exact tG t _ (λn=>⟨_,rfl⟩) h.prots h.exprs _ 0 _ _ rfl (Nat.zero_le _) (by have:=h.prots;omega)
 exact key
set_option maxHeartbeats 1000000
abbrev T0:aC:=⟨[],[],[],[],[],[],[],0,[],[],[]⟩
theorem sz_ok{F:Nat}{t:aC}(h:(cA F).ok t):Sz t:=by obtain⟨⟨h1,h2,h3,h4,h5⟩,h6,h7,h8,h9,h10,h11⟩:=h;exact⟨λx hx=>(h1.2 x hx).1,h7.1,λo ho=>(h6.2 o ho).2.2.2.2.1,λl hl=>(h5.2 l hl).1,h10.1,h11.1⟩
theorem nj{r:Bs}(h:Byt r):iY r=true:=by unfold iY;rw[List.all_eq_true];intro x hx;have:=h x hx;rw[dcT this.1,dcT this.2];rfl
theorem f19_eq{F:Nat}(hF:F=9223372036854775808){t:aC}(h:(cA F).ok t)(hl:((cA F).enc t).length<=900000000):f19 t t=some true:=by have hb:Byt (e8 958023++(cA F).enc t):=Byt.app.2 ⟨k8 _,(cA F).f _ h⟩;unfold f19;rw[f58_eq hF h hl,bnS,fu _ (nj hb),bnS,fu _ (nj hb)];simp
def Pv(F:Nat)(b:Bs):aC×Int:=
 match d8 b with
 |none=>(T0,230)
 |some u=>match(cA F).dec u.2 with
  |some (t,[])=>if u.1=958023/\MayB t=true then(t,0) else(T0,230)
  |_=>(T0,230)
theorem f17_eq{F:Nat}(hF:F=9223372036854775808){b:Bs}(hb:Byt b)(hM:b.length<=900000000):f17 b=some (Pv F b):=by
 unfold f17 Pv;rw[f53_eq hb,bnS,dn];cases hd:d8 b with
 |none=>rfl
 |some u=>
  obtain⟨g1,g2,g3⟩:=gz hb hd;dsimp only;obtain⟨b',bad',t,e,hs,hn⟩:=f54_eq hF.symm g1 oM;rw[Bool.not_false,cdT,e,bnS];dsimp only;cases hq:(cA F).dec u.2 with
  |none=>obtain rfl:=hn hq;rfl
  |some v=>
   obtain⟨y,r⟩:=v;obtain⟨rfl,rfl,rfl⟩:=hs y r hq;cases b' with
   |cons x l=>have:decide ((List.length (x::l):Int)>0)=true:=dcT (by simp only[List.length_cons];omega);rw[this,Bool.or_true,cdT];rfl
   |nil=>
    have hok:=((cA F).a g1 hq).2;have:decide ((List.length ([]:Bs):Int)>0)=false:=rfl;rw[this,Bool.or_false,Bool.false_or];by_cases hu:u.1=958023;rw[dcT hu,Bool.not_true,cdF];have hf:f10 (⟨t.insns,t.handlers,t.loops,t.selects,t.lists,t.objs,t.inits,t.excs,t.tasks,t.prots,t.checks⟩:aC)=some (MayB t):=f10_eq t (sz_ok hok);rw[hf,bnS,bnS];cases hm:MayB t with
    |true=>dsimp only;rw[Bool.not_true,cdF,if_pos ⟨hu,hm⟩]
    |false=>dsimp only;rw[Bool.not_false,cdT,if_neg λh=>by rw[hm] at h;cases h.2]
    rw[dcF hu,Bool.not_false,cdT];dsimp only;rw[if_neg λh=>hu h.1];rfl
theorem wT(F:Nat):(cA F).ok T0/\((cA F).enc T0).length<=900000000:=by constructor;simp[cA,mm,nX,pr,liC,Cod.two,Cod.list,aY,Go.Tg.i64];simp[cA,mm,nX,pr,liC,Cod.two,Cod.list,aY,bV]
theorem f20_no{t:aC}(hs:Sz t)(hm:MayB t=false):f20 t=some ([],2):=by unfold f20;rw[f10_eq t hs,hm];rfl
theorem f20_eq{F:Nat}(hF:F=9223372036854775808){t:aC}(hs:Sz t)(hm:MayB t=true)(h:(cA F).ok t)(hl:((cA F).enc t).length<=800000000):f20 t=some (e8 958023++(cA F).enc t,0):=by unfold f20;have h1:f53b false ([]:List Int) 958023=some (false,e8 958023):=mE 958023 [] (by rw[bV];simp);have h2:f54p false (e8 958023) t=some (false,e8 958023++(cA F).enc t):=f54p_w hF.symm t h (e8 958023) (by rw[bV];omega);rw[f10_eq t hs,hm,bnS,Bool.not_true,cdF,h1,bnS,h2];rfl
def rO(b:Bs)(r100:aC×Int):Option Bool:=
 (bif (!decide (r100.2=0)) then Option.bind (bif (decide (r100.2=230)) then(Option.bind (f19 r100.1 (aC.mk [] [] [] [] [] [] [] 0 [] [] [])) λr102=>some r102) else some false) λb101=>
 Option.bind (bif b101 then(Option.bind (f9) λr104=>some r104) else some false) λb103=>
 some b103 else Option.bind (f20 r100.1) λr105=>
 Option.bind (bif (decide (r105.2=0)) then(aS (iY r105.1)<|aS (iY b)<|some (((oQ r105.1).toList==(oQ b).toList))) else some false) λb106=>
 Option.bind (bif b106 then(Option.bind (f10 r100.1) λr110=>some r110) else some false) λb109=>
 Option.bind (bif b109 then(Option.bind (f9) λr112=>some r112) else some false) λb111=>
 some b111)
theorem h9:f9=some true:=rfl
theorem mX{F:Nat}(hF:F=9223372036854775808)(b:Bs):rO b (T0,230)=some true:=by have hs:f19 T0 T0=some true:=f19_eq hF (wT F).1 (wT F).2;unfold rO;dsimp only;rw[show decide ((230:Int)=0)=false from rfl,show decide ((230:Int)=230)=true from rfl,Bool.not_false,cdT,cdT,hs,h9];rfl
theorem vF{F:Nat}(hF:F=9223372036854775808){b:Bs}{v:aC}(hb:Byt b)(hm:MayB v=true)(h:(cA F).ok v)(he:e8 958023++(cA F).enc v=b)(hl:b.length<=30000):rO b (v,0)=some true:=by
 have hlen:((cA F).enc v).length<=800000000:=by have:=congrArg List.length he;rw[List.length_append] at this;omega
 unfold rO;dsimp only;rw[dcT rfl,Bool.not_true,cdF,f20_eq hF (sz_ok h) hm h hlen,bnS,he];dsimp only;rw[dcT rfl,cdT,fu _ (nj hb),fu _ (nj hb),bnS,beq_self_eq_true,cdT,f10_eq v (sz_ok h),hm,h9];rfl
theorem tP{F:Nat}(hF:F=9223372036854775808){b:Bs}(hb:Byt b)(hl:b.length<=30000):Option.bind (f17 b) (rO b)=some true:=by
 rw[f17_eq hF hb oM,bnS];unfold Pv;cases hd:d8 b with
 |none=>exact mX hF b
 |some u=>obtain⟨hbu,_⟩:=pI (x:=u.1) (r:=u.2) hb hd;have hbt:Byt u.2:=(Byt.app.1 (hbu▸hb)).2;dsimp only;split;rename_i v hq;split;rename_i hv;obtain⟨e1,e2⟩:=(cA F).a hbt hq;rw[List.append_nil] at e1;exact vF hF hb hv.2 e2 (by rw[<-e1,<-hv.1];exact hbu.symm) hl;exact mX hF b;exact mX hF b
theorem pv_of{F:Nat}{t:aC}{b:Bs}{u:Int×Bs}(hm:MayB t=true)(h3:(cA F).dec u.2=some (t,[]))(hu:u.1=958023)(hd:d8 b=some u):Pv F b=(t,0):=by unfold Pv;rw[hd];dsimp only;rw[h3];dsimp only;rw[if_pos ⟨hu,hm⟩]
theorem xt{F:Nat}{t:aC}(hm:MayB t=true)(h1:(cA F).ok t):Pv F (e8 958023++(cA F).enc t)=(t,0):=by have h3:=(cA F).b [] h1;rw[List.append_nil] at h3;exact pv_of (u:=(958023,(cA F).enc t)) hm h3 rfl (wb _ ⟨oM,oM⟩)
def first(t:aC)(K:Option Bool):Option Bool:=
 Option.bind (f20 t) λr93=>
 Option.bind (f17 r93.1) λr94=>
 Option.bind (f10 t) λr95=>
 Option.bind (bif (!(r95==(decide (r93.2=0)))) then some true else(Option.bind (bif (decide (r93.2=0)) then(Option.bind (bif (!decide (r94.2=0)) then some true else(Option.bind (f19 t r94.1) λr99=>some (!r99))) λb98=>some b98) else some false) λb97=>some b97)) λb96=>
 (bif b96 then some false else K)
theorem tV{F:Nat}(hF:F=9223372036854775808){t:aC}(hs:Sz t)(hm:MayB t=false)(K:Option Bool):first t K=K:=by
 unfold first
 rw[f20_no hs hm,bnS];dsimp only;rw[f17_eq hF (b:=[]) (λx hx=>by cases hx) (Nat.zero_le _),bnS,f10_eq t hs,hm,bnS];rfl
theorem rR{F:Nat}(hF:F=9223372036854775808){t:aC}(hs:Sz t)(hm:MayB t=true)(h1:(cA F).ok t)(h2:((cA F).enc t).length<=200000000)(K:Option Bool):first t K=K:=by
 have hby:Byt (e8 958023++(cA F).enc t):=Byt.app.2 ⟨k8 _,(cA F).f _ h1⟩;unfold first
 rw[f20_eq hF hs hm h1 oM,bnS];dsimp only;rw[f17_eq hF hby (by rw[List.length_append,bV];omega),bnS,xt hm h1,f10_eq t hs,hm,bnS];dsimp only;rw[f19_eq hF h1 oM];rfl
theorem tB(t:aC)(hr:RgT t)(hz:SzL t)(b:Bs)(hb:Byt b):f6 t b=some true:=by
 obtain⟨F,hF⟩:∃F:Nat,F=9223372036854775808:=⟨_,rfl⟩;obtain⟨g,hg⟩:=f8_tot t hz;have e:f6 t b=Option.bind (some g) λr91=>bif (r91||(decide ((List.length b:Int)>30000))) then f9 else first t (Option.bind (f17 b) (rO b)):=by unfold f6;rw[hg];rfl
 rw[e,bnS];cases hc:g||decide ((List.length b:Int)>30000) with
 |true=>rw[cdT,h9]
 |false=>
  have hM:b.length<=30000:=by rw[Bool.or_eq_false_iff,decide_eq_false_iff_not] at hc;omega
  rw[cdF];cases hm:MayB t with
  |false=>rw[tV hF hr.sz hm];exact tP hF hb hM
  |true=>have h:=xi hr hm (F - 66);rw[show 66+(F - 66)=F by omega] at h;rw[rR hF hr.sz hm h.1 h.2];exact tP hF hb hM
mutual
theorem ut:∀(e:ae),RgE e->SzE e
 | .mk _ _ _ _ _ _ _ _ l,h=>by
  rw[RgE] at h;rw[SzE];exact⟨h.2.1,RgEs_sz l h.2.2⟩
theorem RgEs_sz:∀(l:List ae),RgEs l->SzEs l
 |[],_=>by rw[SzEs];trivial
 |e::l,h=>by
  rw[RgEs] at h;rw[SzEs];exact⟨ut e h.1,RgEs_sz l h.2⟩
end
theorem RgT.szl{t:aC}(h:RgT t):SzL t:=⟨h.code.2.1.1,h.code.2.2.2.1.1,h.code.2.2.2.2.1,h.objs.1,h.tasks.1,h.prots.1,λp hp b hb=>ut b ((h.prots.2 p hp).2.2 b hb)⟩
end Go.Proofs.YtejcfgjpdocaoaaGreatDoor
