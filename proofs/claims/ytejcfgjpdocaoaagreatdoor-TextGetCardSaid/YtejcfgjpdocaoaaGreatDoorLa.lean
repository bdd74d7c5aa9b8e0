/- Part of the proof. -/
import Derived.Laws.BitsLemmas
import Derived.KernelRfl
import Derived.Test.YtejcfgjpdocaoaaGreatDoorO
set_option linter.all false
namespace Go.Tg
open Go Go.Sk
open Go.IntKind (i64)
abbrev Bs:=List Int
def Byt(b:Bs):Prop:=∀x∈b,0<=x/\x<256
theorem Byt.app{a b:Bs}:Byt (a++b)↔Byt a/\Byt b:=by unfold Byt;simp only[List.mem_append];exact⟨λh=>⟨λx hx=>h x (.inl hx),λx hx=>h x (.inr hx)⟩,λh x hx=>hx.elim (h.1 x) (h.2 x)⟩
structure Cod(α:Type) where
 enc:α->Bs
 dec:Bs->Option (α×Bs)
 dec':Bs->Option (α×Bs)
 ok:α->Prop
 a:∀{b x r},Byt b->dec b=some (x,r)->b=enc x++r/\ok x
 b:∀{x} r,ok x->dec (enc x++r)=some (x,r)
 c:∀{b x r},dec b=some (x,r)->dec' b=some (x,r)
 d:∀{b x r},Byt b->dec' b=some (x,r)->ok x/\Byt r
 e:∀x,8<=(enc x).length
 f:∀x,ok x->Byt (enc x)
 g:∀{b x r},Byt b->dec' b=some (x,r)->(enc x).length+r.length=b.length
def Cod.two{α β γ:Type}(p:Cod α)(q:Cod β)(mk:α->β->γ)(f1:γ->α)(f2:γ->β)(h1:∀x y,f1 (mk x y)=x)(h2:∀x y,f2 (mk x y)=y)(h3:∀z,mk (f1 z) (f2 z)=z):Cod γ where
 enc z:=p.enc (f1 z)++q.enc (f2 z)
 dec b:=(p.dec b).bind λu=>(q.dec u.2).bind λv=>some (mk u.1 v.1,v.2)
 dec' b:=(p.dec' b).bind λu=>(q.dec' u.2).bind λv=>some (mk u.1 v.1,v.2)
 ok z:=p.ok (f1 z)/\q.ok (f2 z)
 a {b x r} hb h:=by obtain⟨⟨u,s⟩,e1,h⟩:=Option.bind_eq_some_iff.1 h;obtain⟨⟨v,s'⟩,e2,h⟩:=Option.bind_eq_some_iff.1 h;simp only[aH,Prod.mk.injEq] at h;obtain⟨rfl,rfl⟩:=h;obtain⟨g1,g2⟩:=p.a hb e1;have hs:Byt s:=(Byt.app.1 (g1▸hb)).2;obtain⟨g3,g4⟩:=q.a hs e2;rw[h1,h2];exact⟨by rw[g1,g3,List.append_assoc],g2,g4⟩
 b {x} r h:=by show(p.dec (p.enc (f1 x)++q.enc (f2 x)++r)).bind _=_;rw[List.append_assoc,p.b _ h.1];show(q.dec (q.enc (f2 x)++r)).bind _=_;rw[q.b _ h.2];show some (mk (f1 x) (f2 x),r)=_;rw[h3]
 c {b x r} h:=by obtain⟨⟨u,s⟩,e1,h⟩:=Option.bind_eq_some_iff.1 h;obtain⟨⟨v,s'⟩,e2,h⟩:=Option.bind_eq_some_iff.1 h;rw[p.c e1];show(q.dec' s).bind _=_;rw[q.c e2];exact h
 d {b x r} hb h:=by obtain⟨⟨u,s⟩,e1,h⟩:=Option.bind_eq_some_iff.1 h;obtain⟨⟨v,s'⟩,e2,h⟩:=Option.bind_eq_some_iff.1 h;simp only[aH,Prod.mk.injEq] at h;obtain⟨rfl,rfl⟩:=h;obtain⟨g1,g2⟩:=p.d hb e1;obtain⟨g3,g4⟩:=q.d g2 e2;rw[h1,h2];exact⟨⟨g1,g3⟩,g4⟩
 e z:=by rw[List.length_append];have:=p.e (f1 z);omega
 f z h:=Byt.app.2 ⟨p.f _ h.1,q.f _ h.2⟩
 g {b x r} hb h:=by obtain⟨⟨u,s⟩,e1,h⟩:=Option.bind_eq_some_iff.1 h;obtain⟨⟨v,s'⟩,e2,h⟩:=Option.bind_eq_some_iff.1 h;simp only[aH,Prod.mk.injEq] at h;obtain⟨rfl,rfl⟩:=h;have g1:=p.g hb e1;have g2:=q.g (p.d hb e1).2 e2;rw[h1,h2,List.length_append];omega
def bX{α:Type}(g:Bs->Option (α×Bs)):Nat->Bs->Option (List α×Bs)
 |0,b=>some ([],b)
 |n+1,b=>(g b).bind λu=>(bX g n u.2).bind λv=>some (u.1::v.1,v.2)
theorem iY{α:Type}{g:Bs->Option (α×Bs)}:∀{n:Nat}{b:Bs}{l:List α}{r:Bs},bX g n b=some (l,r)->l.length=n
 |0,b,l,r,h=>by
  simp only[bX,aH,Prod.mk.injEq] at h;rw[<-h.1];rfl
 |n+1,b,l,r,h=>by
  obtain⟨⟨u,s⟩,e1,h⟩:=Option.bind_eq_some_iff.1 h;obtain⟨⟨v,s'⟩,e2,h⟩:=Option.bind_eq_some_iff.1 h;simp only[aH,Prod.mk.injEq] at h;obtain⟨rfl,rfl⟩:=h;simp[iY e2]
section
variable{α:Type}(p:Cod α)
theorem tB:∀{n:Nat}{b:Bs}{l:List α}{r:Bs},Byt b->bX p.dec n b=some (l,r)->b=l.flatMap p.enc++r/\∀x∈l,p.ok x
 |0,b,l,r,_,h=>by
  simp only[bX,aH,Prod.mk.injEq] at h;obtain⟨rfl,rfl⟩:=h;exact⟨rfl,sM⟩
 |n+1,b,l,r,hb,h=>by
  obtain⟨⟨u,s⟩,e1,h⟩:=Option.bind_eq_some_iff.1 h;obtain⟨⟨v,s'⟩,e2,h⟩:=Option.bind_eq_some_iff.1 h;simp only[aH,Prod.mk.injEq] at h;obtain⟨rfl,rfl⟩:=h;obtain⟨g1,g2⟩:=p.a hb e1;obtain⟨g3,g4⟩:=tB ((Byt.app.1 (g1▸hb)).2) e2;dsimp only at g3;exact⟨by rw[g1,g3,List.flatMap_cons,List.append_assoc],λx hx=>(List.mem_cons.1 hx).elim (λe=>e▸g2) (g4 x)⟩
theorem tA:∀{l:List α}(r:Bs),(∀x∈l,p.ok x)->bX p.dec l.length (l.flatMap p.enc++r)=some (l,r)
 |[],r,_=>rfl
 |x::l,r,h=>by
  rw[List.flatMap_cons,List.append_assoc,List.length_cons,bX,p.b _ (h x List.mem_cons_self)];show(bX p.dec l.length (l.flatMap p.enc++r)).bind _=_;rw[tA r λy hy=>h y (List.mem_cons_of_mem _ hy)];rfl
theorem tz:∀{n:Nat}{b:Bs}{l:List α}{r:Bs},bX p.dec n b=some (l,r)->bX p.dec' n b=some (l,r)
 |0,b,l,r,h=>h
 |n+1,b,l,r,h=>by
  obtain⟨⟨u,s⟩,e1,h⟩:=Option.bind_eq_some_iff.1 h;obtain⟨⟨v,s'⟩,e2,h⟩:=Option.bind_eq_some_iff.1 h;rw[bX,p.c e1];show(bX p.dec' n s).bind _=_;rw[tz e2];exact h
theorem tx:∀{n:Nat}{b:Bs}{l:List α}{r:Bs},Byt b->bX p.dec' n b=some (l,r)->(∀x∈l,p.ok x)/\Byt r
 |0,b,l,r,hb,h=>by
  simp only[bX,aH,Prod.mk.injEq] at h;obtain⟨rfl,rfl⟩:=h;exact⟨sM,hb⟩
 |n+1,b,l,r,hb,h=>by
  obtain⟨⟨u,s⟩,e1,h⟩:=Option.bind_eq_some_iff.1 h;obtain⟨⟨v,s'⟩,e2,h⟩:=Option.bind_eq_some_iff.1 h;simp only[aH,Prod.mk.injEq] at h;obtain⟨rfl,rfl⟩:=h;obtain⟨g1,g2⟩:=p.d hb e1;obtain⟨g3,g4⟩:=tx g2 e2;exact⟨λx hx=>(List.mem_cons.1 hx).elim (λe=>e▸g1) (g3 x),g4⟩
theorem tw:∀l:List α,8*l.length<=(l.flatMap p.enc).length
 |[]=>Nat.le_refl _
 |x::l=>by
  rw[List.flatMap_cons,List.length_append,List.length_cons];have:=p.e x;have:=tw l;omega
theorem tv:∀{l:List α},(∀x∈l,p.ok x)->Byt (l.flatMap p.enc)
 |[],_=>λx hx=>by cases hx
 |x::l,h=>by
  rw[List.flatMap_cons];exact Byt.app.2 ⟨p.f _ (h x List.mem_cons_self),tv λy hy=>h y (List.mem_cons_of_mem _ hy)⟩
theorem tt:∀{n:Nat}{b:Bs}{l:List α}{r:Bs},Byt b->bX p.dec' n b=some (l,r)->(l.flatMap p.enc).length+r.length=b.length
 |0,b,l,r,_,h=>by
  simp only[bX,aH,Prod.mk.injEq] at h;obtain⟨rfl,rfl⟩:=h;simp
 |n+1,b,l,r,hb,h=>by
  obtain⟨⟨u,s⟩,e1,h⟩:=Option.bind_eq_some_iff.1 h;obtain⟨⟨v,s'⟩,e2,h⟩:=Option.bind_eq_some_iff.1 h;simp only[aH,Prod.mk.injEq] at h;obtain⟨rfl,rfl⟩:=h;have g1:(p.enc u).length+s.length=b.length:=p.g hb e1;have g2:(v.flatMap p.enc).length+s'.length=s.length:=tt (p.d hb e1).2 e2;rw[List.flatMap_cons,List.length_append];omega
def dj(dI:Bs->Option (Int×Bs))(g:Nat->Bs->Option (List α×Bs))(b:Bs):Option (List α×Bs):=
 (dI b).bind λu=>if u.1<0\/(u.2.length:Int) / 8<u.1 then none else g u.1.toNat u.2
def Cod.list(i:Cod Int)(hi:∀n:Nat,n<9223372036854775808->i.ok (n:Int))(hi':∀n:Int,i.ok n->n<9223372036854775808):Cod (List α) where
 enc l:=i.enc (l.length:Int)++l.flatMap p.enc
 dec:=dj i.dec (bX p.dec)
 dec':=dj i.dec' (bX p.dec')
 ok l:=(l.length<9223372036854775808)/\∀x∈l,p.ok x
 a {b x r} hb h:=by obtain⟨⟨u,s⟩,e1,h⟩:=Option.bind_eq_some_iff.1 h;dsimp only at h;split at h;cases h;rename_i hc;obtain⟨g1,g2⟩:=i.a hb e1;obtain⟨g3,g4⟩:=tB p ((Byt.app.1 (g1▸hb)).2) h;have hl:=iY h;have hu:=hi' u g2;have:(x.length:Int)=u:=oM;rw[this];exact⟨by rw[g1,g3,List.append_assoc],oM,g4⟩
 b {x} r h:=by show(i.dec (i.enc (x.length:Int)++x.flatMap p.enc++r)).bind _=_;rw[List.append_assoc,i.b _ (hi _ h.1),bnS];have:=tw p x;rw[if_neg (by simp only[List.length_append];omega)];exact tA p r h.2
 c {b x r} h:=by obtain⟨⟨u,s⟩,e1,h⟩:=Option.bind_eq_some_iff.1 h;unfold dj;rw[i.c e1,bnS];dsimp only at h⊢;split at h;cases h;rename_i hc;rw[if_neg hc];exact tz p h
 d {b x r} hb h:=by obtain⟨⟨u,s⟩,e1,h⟩:=Option.bind_eq_some_iff.1 h;dsimp only at h;split at h;cases h;obtain⟨g1,g2⟩:=i.d hb e1;obtain⟨g3,g4⟩:=tx p g2 h;have hl:=iY h;have hu:=hi' u g1;exact⟨⟨oM,g3⟩,g4⟩
 e l:=by rw[List.length_append];have:=i.e (l.length:Int);omega
 f l h:=Byt.app.2 ⟨i.f _ (hi _ h.1),tv p h.2⟩
 g {b x r} hb h:=by obtain⟨⟨u,s⟩,e1,h⟩:=Option.bind_eq_some_iff.1 h;dsimp only at h;split at h;cases h;have g1:=i.g hb e1;have g2:=tt p (i.d hb e1).2 h;have hl:=iY h;have:(x.length:Int)=u:=oM;rw[this,List.length_append];omega
end
def dig:Nat->Int->Bs
 |0,_=> []
 |n+1,u=>u%256::dig n (u / 256)
def val:Bs->Int
 |[]=>0
 |x::l=>x+256*val l
theorem q9:∀(n:Nat)(u:Int),(dig n u).length=n
 |0,_=>rfl
 |n+1,u=>by rw[dig,List.length_cons,q9 n]
theorem q':∀(n:Nat)(u:Int),Byt (dig n u)
 |0,_=>λx hx=>by cases hx
 |n+1,u=>λx hx=>by
  rw[dig] at hx;rcases List.mem_cons.1 hx with rfl|hx
  omega;exact q' n _ x hx
theorem q8:∀{l:Bs},Byt l->dig l.length (val l)=l
 |[],_=>rfl
 |x::l,h=>by
  have hx:=h x List.mem_cons_self;have e1:(x+256*val l)%256=x:=oM;have e2:(x+256*val l) / 256=val l:=oM;rw[List.length_cons,val,dig,e1,e2,q8 λy hy=>h y (List.mem_cons_of_mem _ hy)]
theorem fV:∀{l:Bs},Byt l->0<=val l
 |[],_=>Int.le_refl _
 |x::l,h=>by
  have hx:=h x List.mem_cons_self;have:=fV λy hy=>h y (List.mem_cons_of_mem _ hy);rw[val];omega
theorem wG{l:Bs}(h:Byt l)(hl:l.length=8):0<=val l/\val l<18446744073709551616:=by
 match l,hl with
 |[a,b,c,d,e,f,g,i],_=>have h1:=h a sM;have h2:=h b sM;have h3:=h c sM;have h4:=h d sM;have h5:=h e sM;have h6:=h f sM;have h7:=h g sM;have h8:=h i sM;simp only[val];omega
theorem sW{u:Int}(h:0<=u)(h2:u<18446744073709551616):val (dig 8 u)=u:=by simp only[dig,val];omega
def sgn(u:Int):Int:=if u<9223372036854775808 then u else u - 18446744073709551616
def e8(v:Int):Bs:=dig 8 (v%18446744073709551616)
def d8(b:Bs):Option (Int×Bs):=if b.length<8 then none else some (sgn (val (b.take 8)),b.drop 8)
abbrev i64(v:Int):Prop:= -9223372036854775808<=v/\v<9223372036854775808
theorem fH(v:Int):(e8 v).length=8:=q9 8 _
theorem lh(v:Int):Byt (e8 v):=q' 8 _
theorem oX{b:Bs}{x:Int}{r:Bs}(hb:Byt b)(h:d8 b=some (x,r)):b=e8 x++r/\i64 x:=by
 unfold d8 at h;split at h;cases h;rename_i hl;simp only[aH,Prod.mk.injEq] at h;obtain⟨rfl,rfl⟩:=h;have hl8:(b.take 8).length=8:=by rw[List.length_take];omega
 have hbt:Byt (b.take 8):=λy hy=>hb y (List.mem_of_mem_take hy);obtain⟨v1,v2⟩:=wG hbt hl8;have e1:sgn (val (b.take 8))%18446744073709551616=val (b.take 8):=by unfold sgn;split<;>omega
 refine⟨?_,by unfold sgn;split<;>constructor<;>omega⟩;unfold e8;have:=q8 hbt;rw[hl8] at this;rw[e1,this,List.take_append_drop]
theorem wd{x:Int}(r:Bs)(h:i64 x):d8 (e8 x++r)=some (x,r):=by have hl:=fH x;unfold d8;rw[if_neg (by rw[List.length_append];omega),List.take_append_of_le_length oM,List.take_of_length_le oM,List.drop_append_of_le_length oM,List.drop_of_length_le oM,List.nil_append];congr 2;unfold e8;rw[sW oM oM];unfold sgn;obtain⟨h1,h2⟩:=h;split<;>omega
theorem qd{b:Bs}{x:Int}{r:Bs}(hb:Byt b)(h:d8 b=some (x,r)):i64 x/\Byt r:=by obtain⟨h1,h2⟩:=oX hb h;exact⟨h2,(Byt.app.1 (h1▸hb)).2⟩
theorem qc{b:Bs}{x:Int}{r:Bs}(y:Int)(h:d8 b=some (x,r)):(e8 y).length+r.length=b.length:=by unfold d8 at h;split at h;cases h;simp only[aH,Prod.mk.injEq] at h;rw[<-h.2,fH,List.length_drop];omega
def bu:Cod Int where
 enc:=e8
 dec:=d8
 dec':=d8
 ok:=i64
 a:=oX
 b:=wd
 c h:=h
 d:=qd
 e x:=by rw[fH];exact Nat.le_refl _
 f x _:=lh x
 g _ h:=qc _ h
def dO:Cod Int where
 enc:=e8
 dec b:=(d8 b).bind λu=>if u.1%256=u.1 then some u else none
 dec' b:=(d8 b).bind λu=>some (u.1%256,u.2)
 ok v:=0<=v/\v<=255
 a {b x r} hb h:=by obtain⟨⟨u,s⟩,e1,h⟩:=Option.bind_eq_some_iff.1 h;dsimp only at h;split at h;simp only[aH,Prod.mk.injEq] at h;obtain⟨rfl,rfl⟩:=h;exact⟨(oX hb e1).1,oM⟩;cases h
 b {x} r h:=by rw[wd r ⟨oM,oM⟩,bnS,if_pos oM]
 c {b x r} h:=by obtain⟨⟨u,s⟩,e1,h⟩:=Option.bind_eq_some_iff.1 h;dsimp only at h;split at h;rename_i hc;simp only[aH,Prod.mk.injEq] at h;obtain⟨rfl,rfl⟩:=h;rw[e1,bnS,hc];cases h
 d {b x r} hb h:=by obtain⟨⟨u,s⟩,e1,h⟩:=Option.bind_eq_some_iff.1 h;simp only[aH,Prod.mk.injEq] at h;obtain⟨rfl,rfl⟩:=h;exact⟨oM,(qd hb e1).2⟩
 e x:=by rw[fH];exact Nat.le_refl _
 f x _:=lh x
 g {b x r} hb h:=by obtain⟨⟨u,s⟩,e1,h⟩:=Option.bind_eq_some_iff.1 h;simp only[aH,Prod.mk.injEq] at h;obtain⟨rfl,rfl⟩:=h;exact qc _ e1
def gK:Cod Bool where
 enc b:=e8 (if b then 1 else 0)
 dec b:=(d8 b).bind λu=>if u.1<0\/1<u.1 then none else some (decide (u.1=1),u.2)
 dec' b:=(d8 b).bind λu=>some (decide (u.1=1),u.2)
 ok _:=True
 a {b x r} hb h:=by
  obtain⟨⟨u,s⟩,e1,h⟩:=Option.bind_eq_some_iff.1 h;dsimp only at h;split at h;cases h;simp only[aH,Prod.mk.injEq] at h;obtain⟨rfl,rfl⟩:=h;refine⟨?_,trivial⟩;have:(if decide (u=1)=true then(1:Int) else 0)=u:=by by_cases hu:u=1;simp[hu];simp[hu];omega
  rw[this];exact(oX hb e1).1
 b {x} r _:=by rw[wd r (by cases x<;>exact⟨by decide,by decide⟩),bnS];cases x<;>rfl
 c {b x r} h:=by obtain⟨⟨u,s⟩,e1,h⟩:=Option.bind_eq_some_iff.1 h;dsimp only at h;split at h;cases h;rw[e1];exact h
 d {b x r} hb h:=by obtain⟨⟨u,s⟩,e1,h⟩:=Option.bind_eq_some_iff.1 h;simp only[aH,Prod.mk.injEq] at h;obtain⟨rfl,rfl⟩:=h;exact⟨trivial,(qd hb e1).2⟩
 e x:=by rw[fH];exact Nat.le_refl _
 f x _:=lh _
 g {b x r} hb h:=by obtain⟨⟨u,s⟩,e1,h⟩:=Option.bind_eq_some_iff.1 h;simp only[aH,Prod.mk.injEq] at h;obtain⟨rfl,rfl⟩:=h;exact qc _ e1
end Go.Tg
namespace Go.Proofs.YtejcfgjpdocaoaaGreatDoor
open Go Go.Sk Go.Tg
open Go.IntKind (i64)
abbrev pr{α β:Type}(p:Cod α)(q:Cod β):Cod (α×β):=Cod.two p q Prod.mk Prod.fst Prod.snd (λ_ _=>rfl) (λ_ _=>rfl) (λ_=>rfl)
abbrev liC{α:Type}(p:Cod α):Cod (List α):=Cod.list p bu (λn h=>⟨oM,oM⟩) (λn h=>h.2)
def l9:Cod aB:=Cod.two dO (pr bu (pr bu (pr bu (pr bu (pr bu bu))))) (λo u=>⟨o,u.1,u.2.1,u.2.2.1,u.2.2.2.1,u.2.2.2.2.1,u.2.2.2.2.2⟩) (·.op) (λx=>(x.d,x.a,x.b,x.n,x.m,x.to)) (λ_ _=>rfl) (λ_ _=>rfl) (λ_=>rfl)
def np:Cod am:=Cod.two bu (pr bu (pr bu gK)) (λo u=>⟨o,u.1,u.2.1,u.2.2⟩) (·.from_) (λx=>(x.to,x.at_,x.clean)) (λ_ _=>rfl) (λ_ _=>rfl) (λ_=>rfl)
def nf:Cod Loop:=Cod.two bu (pr bu bu) (λo u=>⟨o,u.1,u.2⟩) (·.head) (λx=>(x.back,x.bound)) (λ_ _=>rfl) (λ_ _=>rfl) (λ_=>rfl)
def nE:Cod aX:=Cod.two dO (pr bu (pr bu (pr bu bu))) (λo u=>⟨o,u.1,u.2.1,u.2.2.1,u.2.2.2⟩) (·.kind) (λx=>(x.entry,x.guard,x.time,x.at_)) (λ_ _=>rfl) (λ_ _=>rfl) (λ_=>rfl)
def lX:Cod aC:=Cod.two (liC nE) (pr bu bu) (λo u=>⟨o,u.1,u.2⟩) (·.alts) (λx=>(x.obj,x.else_)) (λ_ _=>rfl) (λ_ _=>rfl) (λ_=>rfl)
def l8:Cod Obj:=Cod.two bu (pr bu (pr bu (pr gK (liC bu)))) (λo u=>⟨o,u.1,u.2.1,u.2.2.1,u.2.2.2⟩) (·.size) (λx=>(x.lo,x.hi,x.ptr,x.set_)) (λ_ _=>rfl) (λ_ _=>rfl) (λ_=>rfl)
def nj:Cod bt:=Cod.two bu (pr bu bu) (λo u=>⟨o,u.1,u.2⟩) (·.o) (λx=>(x.slot,x.v)) (λ_ _=>rfl) (λ_ _=>rfl) (λ_=>rfl)
def nA:Cod az:=Cod.two (liC bu) (liC bu) az.mk (·.ins) (·.outs) (λ_ _=>rfl) (λ_ _=>rfl) (λ_=>rfl)
def lQ:Cod aJ:=Cod.two bu (pr bu (pr (liC nA) bu)) (λo u=>⟨o,u.1,u.2.1,u.2.2⟩) (·.prio) (λx=>(x.at_,x.entries,x.deadline)) (λ_ _=>rfl) (λ_ _=>rfl) (λ_=>rfl)
def botC(α:Type):Cod α where
 enc _:=e8 0
 dec _:=none
 dec' _:=none
 ok _:=False
 a _ h:=by cases h
 b _ h:=h.elim
 c h:=by cases h
 d _ h:=by cases h
 e _:=by rw[fH];exact Nat.le_refl _
 f _ h:=h.elim
 g _ h:=by cases h
def exC:Nat->Cod ah
 |0=>botC ah
 |n+1=>Cod.two (pr dO (pr dO (pr bu (pr bu (pr bu (pr bu (pr bu bu))))))) (liC (exC n)) (λu l=>⟨u.1,u.2.1,u.2.2.1,u.2.2.2.1,u.2.2.2.2.1,u.2.2.2.2.2.1,u.2.2.2.2.2.2.1,u.2.2.2.2.2.2.2,l⟩) (λx=>(x.kind,x.op,x.n,x.o,x.off,x.len,x.lo,x.hi)) (λx=>x.l) (λ_ _=>rfl) (λ_ _=>rfl) (λz=>by cases z;rfl)
def l6(N:Nat):Cod aV:=Cod.two bu (liC (exC N)) aV.mk (·.ceiling) (·.barriers) (λ_ _=>rfl) (λ_ _=>rfl) (λ_=>rfl)
def md:Cod bc:=Cod.two bu dO bc.mk (·.at_) (·.kind) (λ_ _=>rfl) (λ_ _=>rfl) (λ_=>rfl)
abbrev mB:Cod (List aB×List am×List Loop×List aC×List (List Int)):=pr (liC l9) (pr (liC np) (pr (liC nf) (pr (liC lX) (liC (liC bu)))))
abbrev ml(N:Nat):Cod (List Obj×List bt×Int×List aJ×List aV×List bc):=pr (liC l8) (pr (liC nj) (pr bu (pr (liC lQ) (pr (liC (l6 N)) (liC md)))))
def cC(N:Nat):Cod ao:=Cod.two mB (ml N) (λa b=>⟨a.1,a.2.1,a.2.2.1,a.2.2.2.1,a.2.2.2.2,b.1,b.2.1,b.2.2.1,b.2.2.2.1,b.2.2.2.2.1,b.2.2.2.2.2⟩) (λt=>(t.insns,t.handlers,t.loops,t.selects,t.lists)) (λt=>(t.objs,t.inits,t.excs,t.tasks,t.prots,t.checks)) (λ_ _=>rfl) (λ_ _=>rfl) (λ_=>rfl)
set_option maxRecDepth 10000
theorem jE{x:Int}(h1: -9223372036854775808<=x)(h2:x<=9223372036854775807):i64.wrap x=x:=by rw[IntKind.wrap_i64];omega
theorem cq{α β:Sort _}(k:α)(f:α->β):aq k f=f k:=rfl
theorem d9{α:Type}{L:List α}{i:Nat}(h:i<L.length):idx L (i:Int)=some L[i]:=by unfold idx;rw[dcT (Int.natCast_nonneg i)];simp[h]
theorem eb{α:Type}{c:Bool}(o:Option α)(h:c=true):aN c o=o:=by rw[h];rfl
theorem glt{i n:Nat}(h:i<n):decide ((i:Int)<(n:Int))=true:=dcT oM
theorem xA(a b i:Nat)(h:b<2^i):(b|||a*2^i)=b+a*2^i:=by have:=Nat.shiftLeft_add_eq_or_of_lt h a;rw[Nat.shiftLeft_eq] at this;rw[Nat.or_comm,<-this];omega
theorem kF{u:Int}(h:0<=u)(h2:u<18446744073709551616):i64.wrap u=sgn u:=by rw[IntKind.wrap_i64];unfold sgn;split<;>omega
theorem p64:(2^64:Nat)=18446744073709551616:=sM
theorem qr(x:Int):val [x]=x:=by rw[val,val];omega
theorem s7(v x:Int)(t:Nat)(ht:t<8)(hv:0<=v)(hv2:v<2^(8*t))(hx:0<=x/\x<256):
  i64.wrap (BitVec.ofInt i64.bits v|||BitVec.ofInt i64.bits (i64.wrap ((i64.wrap x)*2^min (Int.toNat (i64.wrap (8*(t:Int)))) i64.bits))).toNat=sgn (v+x*2^(8*t))/\v+x*2^(8*t)<2^(8*(t+1)):=by
 have hb:i64.bits=64:=rfl;rw[hb,jE (x:=x) oM oM,jE (x:=8*(t:Int)) oM oM];have e1:min (Int.toNat (8*(t:Int))) 64=8*t:=oM;rw[e1,BitVec.toNat_or,BitVec.toNat_ofInt,BitVec.toNat_ofInt];have hp:(2:Int)^(8*t)=((2^(8*t):Nat):Int):=by push_cast;rfl
 have hp2:2^(8*(t+1))=2^(8*t)*256:=by grind
 have hp3:2^(8*t)<=72057594037927936:=by have:=Nat.pow_le_pow_right (n:=2) dC (show 8*t<=56 by omega);simpa using this
 obtain⟨a,rfl⟩:=Int.eq_ofNat_of_zero_le hv;obtain⟨c,rfl⟩:=Int.eq_ofNat_of_zero_le hx.1;rw[hp] at hv2⊢;generalize hq:2^(8*t)=q at*
 have hacq:a+c*q<q*256:=by have:c*q<=255*q:=Nat.mul_le_mul oM (Nat.le_refl _);omega
 have e2:((a:Int)%((2^64:Nat):Int)).toNat=a:=by rw[p64];omega
 have e3:(i64.wrap ((c:Int)*(q:Int))%((2^64:Nat):Int)).toNat=c*q:=by grind [p64,kF,sgn]
 rw[e2,e3];have e4:(a|||c*q)=a+c*q:=by grind [xA]
 grind [kF]
theorem mP:∀(a b:Bs),val (a++b)=val a+val b*2^(8*a.length)
 |[],b=>by simp[val]
 |x::a,b=>by
  rw[List.cons_append,val,val,mP a b,List.length_cons,show 8*(a.length+1)=8*a.length+8 by omega,Int.pow_add];grind
theorem f116_l(b:Bs)(hb:Byt b)(hl:8<=b.length):∀(n t:Nat),t<=8->8<n+t->f116_l1 b (λv=>some v) n (sgn (val (b.take t))) (t:Int)=some (sgn (val (b.take 8)))
 |0,t,h,h2=>oM
 |n+1,t,h,h2=>by
  rw[f116_l1];by_cases ht:t<8;have hbt:Byt (b.take t):=λy hy=>hb y (List.mem_of_mem_take hy);have hx:=hb b[t] (List.getElem_mem oM);have hv:=fV hbt;have hlt:(b.take t).length=t:=by grind
  have htk:b.take (t+1)=b.take t++ [b[t]]:=List.take_succ_eq_append_getElem oM;have hval:val (b.take (t+1))=val (b.take t)+b[t]*2^(8*t):=by rw[htk,mP,hlt,qr]
  have hub:∀s:Nat,s<=8->val (b.take s)<2^(8*s):=by
   intro s;induction s with
   |zero=>grind [val]
   |succ s ih=>
    intro hs;have ih:=ih oM;have hxs:=hb b[s] (List.getElem_mem oM);have hls:(b.take s).length=s:=by grind
    have hvs:=fV (l:=b.take s) λy hy=>hb y (List.mem_of_mem_take hy);rw[show b.take (s+1)=b.take s++ [b[s]] from List.take_succ_eq_append_getElem oM,mP,hls,qr];exact(s7 (val (b.take s)) b[s] s oM hvs ih hxs).2
  have h56:val (b.take t)<72057594037927936:=by refine Int.lt_of_lt_of_le (hub t h) ?_;have:=Nat.pow_le_pow_right (n:=2) dC (show 8*t<=56 by omega);grind
  have hsg:sgn (val (b.take t))=val (b.take t):=by grind [sgn]
  have hst:=(s7 (val (b.take t)) b[t] t ht hv (hub t h) hx).1;rw[dcT (show(t:Int)<8 by omega),cdT,d9 (show t<b.length by omega),bnS,eb _ (by unfold shc;exact dcT (by rw[jE oM oM];omega)),hsg,hst,<-hval,jE (x:=(t:Int)+1) oM oM];exact f116_l b hb hl n (t+1) oM oM;grind
theorem f116_eq{b:Bs}(hb:Byt b)(hl:8<=b.length):f116 b=some (sgn (val (b.take 8))):=by unfold f116;rw[cq];exact f116_l b hb hl 9 0 oM oM
abbrev Rdr(α:Type):=List Int->Bool->List α->Option (List Int×Bool×List α)
structure iL{α β:Type}(b:Bs)(bad:Bool)(x:α)(dec:Bs->Option (β×Bs))(put:β->α->α)(b':Bs)(bad':Bool)(x':α):Prop where
 y:Byt b'
 l:b'.length<=b.length
 t:bad=true->bad'=true
 s:bad=false->∀y r,dec b=some (y,r)->b'=r/\bad'=false/\x'=put y x
 n:bad=false->dec b=none->bad'=true
def Ek{α β:Type}(M k:Nat)(F:Rdr α)(dec:Bs->Option (β×Bs))(put:β->α->α):Prop:=
 ∀b bad l (hk:k<l.length),Byt b->b.length<=M->∃b' bad' x',F b bad l=some (b',bad',l.set k x')/\iL b bad l[k] dec put b' bad' x'
abbrev dc2{β γ δ:Type}(d1:Bs->Option (β×Bs))(d2:Bs->Option (γ×Bs))(mk:β->γ->δ):Bs->Option (δ×Bs):=λb=>(d1 b).bind λu=>(d2 u.2).bind λv=>some (mk u.1 v.1,v.2)
theorem oI{α β γ δ:Type}{b b1 b2:Bs}{bad bad1 bad2:Bool}{x x1 x2:α}{d1:Bs->Option (β×Bs)}{d2:Bs->Option (γ×Bs)}{p1:β->α->α}{p2:γ->α->α}{mk:β->γ->δ}{put:δ->α->α}
  (g1:iL b bad x d1 p1 b1 bad1 x1)(g2:iL b1 bad1 x1 d2 p2 b2 bad2 x2)(hp:∀u v x,p2 v (p1 u x)=put (mk u v) x):iL b bad x (dc2 d1 d2 mk) put b2 bad2 x2:=by
 refine⟨g2.y,Nat.le_trans g2.l g1.l,λh=>g2.t (g1.t h),λh y r hd=>?_,λh hd=>?_⟩;obtain⟨⟨u,s⟩,q1,hd⟩:=Option.bind_eq_some_iff.1 hd;obtain⟨⟨v,s'⟩,q2,hd⟩:=Option.bind_eq_some_iff.1 hd;obtain⟨rfl,rfl⟩:=hd;obtain⟨rfl,rfl,rfl⟩:=g1.s h u s q1;obtain⟨rfl,rfl,rfl⟩:=g2.s rfl v s' q2;grind;cases q1:d1 b with
 |none=>exact g2.t (g1.n h q1)
 |some u=>
  rw[dc2,q1,bnS] at hd;obtain⟨rfl,rfl,rfl⟩:=g1.s h u.1 u.2 q1;cases q2:d2 u.2 with
  |none=>exact g2.n rfl q2
  |some v=>grind
theorem Ek.call{α β γ δ:Type}{M k:Nat}{F:Rdr α}{K:List Int×Bool×List α->Option (List Int×Bool×List α)}{d1:Bs->Option (β×Bs)}{d2:Bs->Option (γ×Bs)}{p1:β->α->α}{p2:γ->α->α}(mk:β->γ->δ){put:δ->α->α}
  (h1:Ek M k F d1 p1)(h2:Ek M k (λb bad l=>K (b,bad,l)) d2 p2)(hp:∀u v x,p2 v (p1 u x)=put (mk u v) x):Ek M k (λb bad l=>Option.bind (F b bad l) K) (dc2 d1 d2 mk) put:=λb bad l hk hb hM=>by
 obtain⟨b1,bad1,x1,e1,g1⟩:=h1 b bad l hk hb hM;have hk2:k<(l.set k x1).length:=by grind
 obtain⟨b2,bad2,x2,e2,g2⟩:=h2 b1 bad1 (l.set k x1) hk2 g1.y (by have:=g1.l;omega);have hx:(l.set k x1)[k]=x1:=sM;rw[hx] at g2;refine⟨b2,bad2,x2,?_,oI g1 g2 hp⟩;grind [List.set_set]
theorem f53_eq{b:Bs}(hb:Byt b)(bad:Bool)(v:Int):f53 b bad v=some (match d8 b with|none=>(b,true,v)|some u=>(u.2,bad,u.1)):=by unfold f53 d8;by_cases h:b.length<8;grind;rw[dcF (show¬(b.length:Int)<8 by omega),cdF,f116_eq hb oM,bnS,if_neg h,eb];grind [br,List.take_of_length_le];grind [ce]
theorem d5{b:Bs}(hb:Byt b){u:Int×Bs}(h:d8 b=some u):Byt u.2/\u.2.length<=b.length/\i64 u.1:=by obtain⟨h1,h2⟩:=oX hb h;refine⟨(Byt.app.1 (h1▸hb)).2,?_,h2⟩;grind
theorem kX{α:Type}{b:Bs}(hb:Byt b)(bad:Bool)(x:α)(set:α->Int->α):∃b' bad' x',(match d8 b with|none=>(b,true,x)|some u=>(u.2,bad,set x u.1))=(b',bad',x')/\iL b bad x d8 (λv x=>set x v) b' bad' x':=by
 generalize hd:d8 b=o;cases o with
 |none=>exact⟨b,true,x,rfl,hb,Nat.le_refl _,λ_=>rfl,λ_ y r h2=>(by rw[hd] at h2;cases h2),λ_ _=>rfl⟩
 |some u=>obtain⟨g1,g2,g3⟩:=d5 hb hd;exact⟨u.2,bad,set x u.1,rfl,g1,g2,id,λh2 y r e=>(by rw[hd,aH] at e;subst e;exact⟨rfl,h2,rfl⟩),λ_ e=>(by rw[hd] at e;cases e)⟩
section
variable{α γ δ:Type}{M k:Nat}(get:α->Int)(set:α->Int->α){K:List α->List Int->Bool->Int->Option (List Int×Bool×List α)}
theorem oe(hgs:∀x v,get (set x v)=v)(hsg:∀x,set x (get x)=x){b:Bs}(hb:Byt b)(bad:Bool){l:List α}(hk:k<l.length):∃b' bad' x' v',(aq K λkk=>Option.bind (idx l (k:Int)) λx=>Option.bind (f53 b bad (get x)) λr=>Option.bind (idx l (k:Int)) λy=>Option.bind (idx (List.set l (Int.toNat (k:Int)) (set y r.2.2)) (k:Int)) λz=>bif !decide (get z=r.2.2) then kk (List.set l (Int.toNat (k:Int)) (set y r.2.2)) r.1 true r.2.2 else kk (List.set l (Int.toNat (k:Int)) (set y r.2.2)) r.1 r.2.1 r.2.2)=K (l.set k x') b' bad' v'/\iL b bad l[k] d8 (λv x=>set x v) b' bad' x':=by
 obtain⟨b',bad',x',e,hl⟩:=kX hb bad l[k] set;rw[cq,d9 hk,bnS,f53_eq hb,bnS,bnS,Int.toNat_natCast];refine⟨b',bad',x',(match d8 b with|none=>(b,true,get l[k])|some u=>(u.2,bad,u.1)).2.2,?_,hl⟩;generalize d8 b=o at e;have hi:∀z:α,idx (l.set k z) (k:Int)=some z:=λz=>by
  grind [d9]
 cases o with
 |none=>simp_all
 |some u=>grind
theorem fP{d2:Bs->Option (γ×Bs)}{p2:γ->α->α}(mk:Int->γ->δ){put:δ->α->α}(hgs:∀x v,get (set x v)=v)(hsg:∀x,set x (get x)=x)
  (h2:∀v,Ek M k (λb bad l=>K l b bad v) d2 p2)(hp:∀u v x,p2 v (set x u)=put (mk u v) x):
  Ek M k (λb bad l=>aq K λkk=>Option.bind (idx l (k:Int)) λx=>Option.bind (f53 b bad (get x)) λr=>Option.bind (idx l (k:Int)) λy=>Option.bind (idx (List.set l (Int.toNat (k:Int)) (set y r.2.2)) (k:Int)) λz=>bif !decide (get z=r.2.2) then kk (List.set l (Int.toNat (k:Int)) (set y r.2.2)) r.1 true r.2.2 else kk (List.set l (Int.toNat (k:Int)) (set y r.2.2)) r.1 r.2.1 r.2.2) (dc2 d8 d2 mk) put:=λb bad l hk hb hM=>by
 obtain⟨b1,bad1,x1,v1,e1,g1⟩:=oe (K:=K) get set hgs hsg hb bad hk;have hk2:k<(l.set k x1).length:=by grind
 obtain⟨b2,bad2,x2,e2,g2⟩:=h2 v1 b1 bad1 (l.set k x1) hk2 g1.y (by have:=g1.l;omega);have hx:(l.set k x1)[k]=x1:=sM;rw[hx] at g2;exact⟨b2,bad2,x2,e1.trans (e2.trans (by rw[List.set_set])),oI g1 g2 hp⟩
theorem ez(hgs:∀x v,get (set x v)=v)(hsg:∀x,set x (get x)=x)(h2:∀l b bad v,K l b bad v=some (b,bad,l)):
  Ek M k (λb bad l=>aq K λkk=>Option.bind (idx l (k:Int)) λx=>Option.bind (f53 b bad (get x)) λr=>Option.bind (idx l (k:Int)) λy=>Option.bind (idx (List.set l (Int.toNat (k:Int)) (set y r.2.2)) (k:Int)) λz=>bif !decide (get z=r.2.2) then kk (List.set l (Int.toNat (k:Int)) (set y r.2.2)) r.1 true r.2.2 else kk (List.set l (Int.toNat (k:Int)) (set y r.2.2)) r.1 r.2.1 r.2.2) d8 (λv x=>set x v):=λb bad l hk hb hM=>by
 obtain⟨b1,bad1,x1,v1,e1,g1⟩:=oe (K:=K) get set hgs hsg hb bad hk;grind
end
section
variable{α γ δ:Type}{M k:Nat}(set:α->Int->α){K:List α->List Int->Bool->Option (List Int×Bool×List α)}
theorem Ek.inl{d2:Bs->Option (γ×Bs)}{p2:γ->α->α}(mk:Int->γ->δ){put:δ->α->α}(h2:Ek M k (λb bad l=>K l b bad) d2 p2)(hp:∀u v x,p2 v (set x u)=put (mk u v) x):
  Ek M k (λb bad l=>aq K λkk=>bif decide ((List.length b:Int)<8) then kk l b true else Option.bind (f116 b) λr=>Option.bind (idx l (k:Int)) λx=>aN (ce b 8 (List.length b:Int)) (kk (List.set l (Int.toNat (k:Int)) (set x r)) (br b 8 (List.length b:Int)) bad)) (dc2 d8 d2 mk) put:=λb bad l hk hb hM=>by
 obtain⟨b1,bad1,x1,e1,g1⟩:=kX hb bad l[k] set;have hk2:k<(l.set k x1).length:=by grind
 obtain⟨b2,bad2,x2,e2,g2⟩:=h2 b1 bad1 (l.set k x1) hk2 g1.y (by have:=g1.l;omega);have hx:(l.set k x1)[k]=x1:=sM;rw[hx] at g2;refine⟨b2,bad2,x2,?_,oI g1 g2 hp⟩;rw[List.set_set] at e2;refine Eq.trans ?_ e2;dsimp only;rw[cq];unfold d8 at e1;by_cases h:b.length<8;rw[if_pos h] at e1;obtain⟨rfl,rfl,rfl⟩:=e1;rw[dcT (show(b.length:Int)<8 by omega),cdT];simp;rw[if_neg h] at e1;obtain⟨rfl,rfl,rfl⟩:=e1;rw[dcF (show¬(b.length:Int)<8 by omega),cdF,f116_eq hb oM,bnS,d9 hk,bnS,eb];grind [br,List.take_of_length_le];grind [ce]
end
theorem u8w(v:Int):IntKind.u8.wrap v=v%256:=by simp only[IntKind.wrap,IntKind.bits,IntKind.signed];simp
theorem Ek.eq{α β:Type}{M k:Nat}{F:Rdr α}{d d':Bs->Option (β×Bs)}{p:β->α->α}(h:Ek M k F d p)(e:∀b,d b=d' b):Ek M k F d' p:=by have:d=d':=funext e;grind
section
variable{α:Type}{M k:Nat}(get:α->Int)(set:α->Int->α){K:List α->List Int->Bool->Int->Option (List Int×Bool×List α)}
theorem lG(hgs:∀x v,get (set x v)=v)(h2:∀l b bad v,K l b bad v=some (b,bad,l)):
  Ek M k (λb bad l=>aq K λkk=>Option.bind (idx l (k:Int)) λx=>Option.bind (f53 b bad (i64.wrap (get x))) λr=>Option.bind (idx l (k:Int)) λy=>Option.bind (idx (List.set l (Int.toNat (k:Int)) (set y (IntKind.u8.wrap r.2.2))) (k:Int)) λz=>bif !decide (i64.wrap (get z)=r.2.2) then kk (List.set l (Int.toNat (k:Int)) (set y (IntKind.u8.wrap r.2.2))) r.1 true r.2.2 else kk (List.set l (Int.toNat (k:Int)) (set y (IntKind.u8.wrap r.2.2))) r.1 r.2.1 r.2.2) dO.dec (λv x=>set x v):=λb bad l hk hb hM=>by
 dsimp only;rw[cq,d9 hk,bnS,f53_eq hb,bnS,bnS,Int.toNat_natCast];have hi:∀z:α,idx (l.set k z) (k:Int)=some z:=λz=>by
  grind [d9]
 generalize hd:d8 b=o;cases o with
 |none=>
  rw[hi,bnS];simp only[h2];have hc:∀(c:Bool)(A:Option (List Int×Bool×List α)),(bif c then A else A)=A:=by grind
  rw[hc];refine⟨b,true,_,rfl,hb,Nat.le_refl _,λ_=>rfl,λ_ y r h=>?_,λ_ _=>rfl⟩;rw[show dO.dec b=(d8 b).bind _ from rfl,hd] at h;cases h
 |some u=>obtain⟨g1,g2,g3⟩:=d5 hb hd;rw[hi,bnS,hgs];simp only[h2];rw[u8w,jE oM oM];by_cases hu:u.1%256=u.1;rw[dcT hu,Bool.not_true,cdF];refine⟨u.2,bad,_,rfl,g1,g2,id,λh y r e=>?_,λ_ e=>?_⟩;rw[show dO.dec b=(d8 b).bind _ from rfl,hd,bnS,if_pos hu,aH] at e;grind;rw[show dO.dec b=(d8 b).bind _ from rfl,hd,bnS,if_pos hu] at e;cases e;rw[dcF hu,Bool.not_false,cdT];refine⟨u.2,true,_,rfl,g1,g2,λ_=>rfl,λh y r e=>?_,λ_ _=>rfl⟩;rw[show dO.dec b=(d8 b).bind _ from rfl,hd,bnS,if_neg hu] at e;cases e
end
theorem f131_a_el(M k:Nat):Ek M k (λb bad l=>f131_a b bad l (k:Int)) (dc2 d8 (dc2 d8 d8 Prod.mk) Prod.mk) (λ(u:Int×Int×Int)(x:aB)=>(⟨x.op,u.1,u.2.1,u.2.2,x.n,x.m,x.to⟩:aB)):=by unfold f131_a;exact fP (p2:=(λ(u:Int×Int)(x:aB)=>(⟨x.op,x.d,u.1,u.2,x.n,x.m,x.to⟩:aB))) (put:=(λ(u:Int×Int×Int)(x:aB)=>(⟨x.op,u.1,u.2.1,u.2.2,x.n,x.m,x.to⟩:aB))) (·.d) (λ(x:aB) v=>(⟨x.op,v,x.a,x.b,x.n,x.m,x.to⟩:aB)) Prod.mk (λ_ _=>rfl) (λ_=>rfl) (λ_=>fP (p2:=(λ(u:Int)(x:aB)=>(⟨x.op,x.d,x.a,u,x.n,x.m,x.to⟩:aB))) (put:=(λ(u:Int×Int)(x:aB)=>(⟨x.op,x.d,u.1,u.2,x.n,x.m,x.to⟩:aB))) (·.a) (λ(x:aB) v=>(⟨x.op,x.d,v,x.b,x.n,x.m,x.to⟩:aB)) Prod.mk (λ_ _=>rfl) (λ_=>rfl) (λ_=>ez (·.b) (λ(x:aB) v=>(⟨x.op,x.d,x.a,v,x.n,x.m,x.to⟩:aB)) (λ_ _=>rfl) (λ_=>rfl) λ_ _ _ _=>rfl) λ_ _ _=>rfl) (λ_ _ _=>rfl)
theorem f131_t_el(M k:Nat):Ek M k (λb bad l=>f131_t b bad l (k:Int)) d8 (λ(u:Int)(x:aB)=>(⟨x.op,x.d,x.a,x.b,x.n,x.m,u⟩:aB)):=by exact ez (·.to) (λ(x:aB) v=>(⟨x.op,x.d,x.a,x.b,x.n,x.m,v⟩:aB)) (λ_ _=>rfl) (λ_=>rfl) (λ_ _ _ _=>rfl)
theorem f131_h_el(M k:Nat):Ek M k (λb bad l=>f131_h b bad l (k:Int)) (dc2 d8 (dc2 d8 d8 Prod.mk) Prod.mk) (λ(u:Int×Int×Int)(x:am)=>(⟨u.1,u.2.1,u.2.2,x.clean⟩:am)):=by unfold f131_h;exact fP (p2:=(λ(u:Int×Int)(x:am)=>(⟨x.from_,u.1,u.2,x.clean⟩:am))) (put:=(λ(u:Int×Int×Int)(x:am)=>(⟨u.1,u.2.1,u.2.2,x.clean⟩:am))) (·.from_) (λ(x:am) v=>(⟨v,x.to,x.at_,x.clean⟩:am)) Prod.mk (λ_ _=>rfl) (λ_=>rfl) (λ_=>fP (p2:=(λ(u:Int)(x:am)=>(⟨x.from_,x.to,u,x.clean⟩:am))) (put:=(λ(u:Int×Int)(x:am)=>(⟨x.from_,u.1,u.2,x.clean⟩:am))) (·.to) (λ(x:am) v=>(⟨x.from_,v,x.at_,x.clean⟩:am)) Prod.mk (λ_ _=>rfl) (λ_=>rfl) (λ_=>ez (·.at_) (λ(x:am) v=>(⟨x.from_,x.to,v,x.clean⟩:am)) (λ_ _=>rfl) (λ_=>rfl) λ_ _ _ _=>rfl) λ_ _ _=>rfl) (λ_ _ _=>rfl)
theorem f131_l_el(M k:Nat):Ek M k (λb bad l=>f131_l b bad l (k:Int)) (dc2 d8 d8 Prod.mk) (λ(u:Int×Int)(x:Loop)=>(⟨u.1,u.2,x.bound⟩:Loop)):=by exact fP (p2:=(λ(u:Int)(x:Loop)=>(⟨x.head,u,x.bound⟩:Loop))) (put:=(λ(u:Int×Int)(x:Loop)=>(⟨u.1,u.2,x.bound⟩:Loop))) (·.head) (λ(x:Loop) v=>(⟨v,x.back,x.bound⟩:Loop)) Prod.mk (λ_ _=>rfl) (λ_=>rfl) (λ_=>ez (·.back) (λ(x:Loop) v=>(⟨x.head,v,x.bound⟩:Loop)) (λ_ _=>rfl) (λ_=>rfl) λ_ _ _ _=>rfl) (λ_ _ _=>rfl)
theorem f131_x_el(M k:Nat):Ek M k (λb bad l=>f131_x b bad l (k:Int)) (dc2 d8 (dc2 d8 (dc2 d8 d8 Prod.mk) Prod.mk) Prod.mk) (λ(u:Int×Int×Int×Int)(x:aX)=>(⟨x.kind,u.1,u.2.1,u.2.2.1,u.2.2.2⟩:aX)):=by unfold f131_x;exact fP (p2:=(λ(u:Int×Int×Int)(x:aX)=>(⟨x.kind,x.entry,u.1,u.2.1,u.2.2⟩:aX))) (put:=(λ(u:Int×Int×Int×Int)(x:aX)=>(⟨x.kind,u.1,u.2.1,u.2.2.1,u.2.2.2⟩:aX))) (·.entry) (λ(x:aX) v=>(⟨x.kind,v,x.guard,x.time,x.at_⟩:aX)) Prod.mk (λ_ _=>rfl) (λ_=>rfl) (λ_=>fP (p2:=(λ(u:Int×Int)(x:aX)=>(⟨x.kind,x.entry,x.guard,u.1,u.2⟩:aX))) (put:=(λ(u:Int×Int×Int)(x:aX)=>(⟨x.kind,x.entry,u.1,u.2.1,u.2.2⟩:aX))) (·.guard) (λ(x:aX) v=>(⟨x.kind,x.entry,v,x.time,x.at_⟩:aX)) Prod.mk (λ_ _=>rfl) (λ_=>rfl) (λ_=>fP (p2:=(λ(u:Int)(x:aX)=>(⟨x.kind,x.entry,x.guard,x.time,u⟩:aX))) (put:=(λ(u:Int×Int)(x:aX)=>(⟨x.kind,x.entry,x.guard,u.1,u.2⟩:aX))) (·.time) (λ(x:aX) v=>(⟨x.kind,x.entry,x.guard,v,x.at_⟩:aX)) Prod.mk (λ_ _=>rfl) (λ_=>rfl) (λ_=>ez (·.at_) (λ(x:aX) v=>(⟨x.kind,x.entry,x.guard,x.time,v⟩:aX)) (λ_ _=>rfl) (λ_=>rfl) λ_ _ _ _=>rfl) λ_ _ _=>rfl) λ_ _ _=>rfl) (λ_ _ _=>rfl)
theorem f131_s_el(M k:Nat):Ek M k (λb bad l=>f131_s b bad l (k:Int)) (dc2 d8 d8 Prod.mk) (λ(u:Int×Int)(x:bt)=>(⟨u.1,u.2,x.v⟩:bt)):=by exact fP (p2:=(λ(u:Int)(x:bt)=>(⟨x.o,u,x.v⟩:bt))) (put:=(λ(u:Int×Int)(x:bt)=>(⟨u.1,u.2,x.v⟩:bt))) (·.o) (λ(x:bt) v=>(⟨v,x.slot,x.v⟩:bt)) Prod.mk (λ_ _=>rfl) (λ_=>rfl) (λ_=>ez (·.slot) (λ(x:bt) v=>(⟨x.o,v,x.v⟩:bt)) (λ_ _=>rfl) (λ_=>rfl) λ_ _ _ _=>rfl) (λ_ _ _=>rfl)
theorem f131_c_el(M k:Nat):Ek M k (λb bad l=>f131_c b bad l (k:Int)) d8 (λ(u:Int)(x:bc)=>(⟨u,x.kind⟩:bc)):=by exact ez (·.at_) (λ(x:bc) v=>(⟨v,x.kind⟩:bc)) (λ_ _=>rfl) (λ_=>rfl) (λ_ _ _ _=>rfl)
theorem f131_o_el(M k:Nat):Ek M k (λb bad l=>f131_o b bad l (k:Int)) d8 (λ(u:Int)(x:Obj)=>(⟨u,x.lo,x.hi,x.ptr,x.set_⟩:Obj)):=by exact ez (·.size) (λ(x:Obj) v=>(⟨v,x.lo,x.hi,x.ptr,x.set_⟩:Obj)) (λ_ _=>rfl) (λ_=>rfl) (λ_ _ _ _=>rfl)
theorem f131_q_el(M k:Nat):Ek M k (λb bad l=>f131_q b bad l (k:Int)) (dc2 d8 d8 Prod.mk) (λ(u:Int×Int)(x:aC)=>(⟨x.alts,u.1,u.2⟩:aC)):=by exact fP (p2:=(λ(u:Int)(x:aC)=>(⟨x.alts,x.obj,u⟩:aC))) (put:=(λ(u:Int×Int)(x:aC)=>(⟨x.alts,u.1,u.2⟩:aC))) (·.obj) (λ(x:aC) v=>(⟨x.alts,v,x.else_⟩:aC)) Prod.mk (λ_ _=>rfl) (λ_=>rfl) (λ_=>ez (·.else_) (λ(x:aC) v=>(⟨x.alts,x.obj,v⟩:aC)) (λ_ _=>rfl) (λ_=>rfl) λ_ _ _ _=>rfl) (λ_ _ _=>rfl)
theorem f131_k_el(M k:Nat):Ek M k (λb bad l=>f131_k b bad l (k:Int)) (dc2 d8 d8 Prod.mk) (λ(u:Int×Int)(x:aJ)=>(⟨u.1,u.2,x.entries,x.deadline⟩:aJ)):=by exact fP (p2:=(λ(u:Int)(x:aJ)=>(⟨x.prio,u,x.entries,x.deadline⟩:aJ))) (put:=(λ(u:Int×Int)(x:aJ)=>(⟨u.1,u.2,x.entries,x.deadline⟩:aJ))) (·.prio) (λ(x:aJ) v=>(⟨v,x.at_,x.entries,x.deadline⟩:aJ)) Prod.mk (λ_ _=>rfl) (λ_=>rfl) (λ_=>ez (·.at_) (λ(x:aJ) v=>(⟨x.prio,v,x.entries,x.deadline⟩:aJ)) (λ_ _=>rfl) (λ_=>rfl) λ_ _ _ _=>rfl) (λ_ _ _=>rfl)
theorem f131_e_el(M k:Nat):Ek M k (λb bad l=>f131_e b bad l (k:Int)) (dc2 d8 (dc2 d8 d8 Prod.mk) Prod.mk) (λ(u:Int×Int×Int)(x:ah)=>(⟨x.kind,x.op,x.n,u.1,u.2.1,u.2.2,x.lo,x.hi,x.l⟩:ah)):=by unfold f131_e;exact fP (p2:=(λ(u:Int×Int)(x:ah)=>(⟨x.kind,x.op,x.n,x.o,u.1,u.2,x.lo,x.hi,x.l⟩:ah))) (put:=(λ(u:Int×Int×Int)(x:ah)=>(⟨x.kind,x.op,x.n,u.1,u.2.1,u.2.2,x.lo,x.hi,x.l⟩:ah))) (·.o) (λ(x:ah) v=>(⟨x.kind,x.op,x.n,v,x.off,x.len,x.lo,x.hi,x.l⟩:ah)) Prod.mk (λ_ _=>rfl) (λx=>by cases x;rfl) (λ_=>fP (p2:=(λ(u:Int)(x:ah)=>(⟨x.kind,x.op,x.n,x.o,x.off,u,x.lo,x.hi,x.l⟩:ah))) (put:=(λ(u:Int×Int)(x:ah)=>(⟨x.kind,x.op,x.n,x.o,u.1,u.2,x.lo,x.hi,x.l⟩:ah))) (·.off) (λ(x:ah) v=>(⟨x.kind,x.op,x.n,x.o,v,x.len,x.lo,x.hi,x.l⟩:ah)) Prod.mk (λ_ _=>rfl) (λx=>by cases x;rfl) (λ_=>ez (·.len) (λ(x:ah) v=>(⟨x.kind,x.op,x.n,x.o,x.off,v,x.lo,x.hi,x.l⟩:ah)) (λ_ _=>rfl) (λx=>by cases x;rfl) λ_ _ _ _=>rfl) λ_ _ _=>rfl) (λ_ _ _=>rfl)
theorem f131_p_el(M k:Nat):Ek M k (λb bad l=>f131_p b bad l (k:Int)) d8 (λ(u:Int)(x:aV)=>(⟨u,x.barriers⟩:aV)):=by exact ez (·.ceiling) (λ(x:aV) v=>(⟨v,x.barriers⟩:aV)) (λ_ _=>rfl) (λ_=>rfl) (λ_ _ _ _=>rfl)
theorem f164_o_el(M k:Nat):Ek M k (λb bad l=>f164_o b bad l (k:Int)) dO.dec (λv (x:aB)=>(⟨v,x.d,x.a,x.b,x.n,x.m,x.to⟩:aB)):=by unfold f164_o;exact lG (·.op) (λ(x:aB) v=>(⟨v,x.d,x.a,x.b,x.n,x.m,x.to⟩:aB)) (λ_ _=>rfl) (λ_ _ _ _=>rfl)
theorem f191_x_el(M k:Nat):Ek M k (λb bad l=>f191_x b bad l (k:Int)) dO.dec (λv (x:aX)=>(⟨v,x.entry,x.guard,x.time,x.at_⟩:aX)):=by unfold f191_x;exact lG (·.kind) (λ(x:aX) v=>(⟨v,x.entry,x.guard,x.time,x.at_⟩:aX)) (λ_ _=>rfl) (λ_ _ _ _=>rfl)
theorem f174_c_el(M k:Nat):Ek M k (λb bad l=>f174_c b bad l (k:Int)) dO.dec (λv (x:bc)=>(⟨x.at_,v⟩:bc)):=by unfold f174_c;exact lG (·.kind) (λ(x:bc) v=>(⟨x.at_,v⟩:bc)) (λ_ _=>rfl) (λ_ _ _ _=>rfl)
theorem f192_e_el(M k:Nat):Ek M k (λb bad l=>f192_e b bad l (k:Int)) dO.dec (λv (x:ah)=>(⟨v,x.op,x.n,x.o,x.off,x.len,x.lo,x.hi,x.l⟩:ah)):=by unfold f192_e;exact lG (·.kind) (λ(x:ah) v=>(⟨v,x.op,x.n,x.o,x.off,x.len,x.lo,x.hi,x.l⟩:ah)) (λ_ _=>rfl) (λ_ _ _ _=>rfl)
theorem f193_e_el(M k:Nat):Ek M k (λb bad l=>f193_e b bad l (k:Int)) dO.dec (λv (x:ah)=>(⟨x.kind,v,x.n,x.o,x.off,x.len,x.lo,x.hi,x.l⟩:ah)):=by unfold f193_e;exact lG (·.op) (λ(x:ah) v=>(⟨x.kind,v,x.n,x.o,x.off,x.len,x.lo,x.hi,x.l⟩:ah)) (λ_ _=>rfl) (λ_ _ _ _=>rfl)
def glp{β R:Type}(F:List Int->Bool->List β->Int->Option (List Int×Bool×List β))(N:Int)(fin:List β->List Int->Bool->Option R):Nat->Int->List β->List Int->Bool->Option R
 |0,_,_,_,_=>none
 |n+1,t,lw,b,bad=>bif decide (t<N) then(bif bad then fin lw b bad else Option.bind (idx lw t) λ_=>Option.bind (F b bad lw t) λr=>glp F N fin n (i64.wrap (t+1)) r.2.2 r.1 r.2.1) else fin lw b bad
section
variable{β R:Type}{F:List Int->Bool->List β->Int->Option (List Int×Bool×List β)}{dec:Bs->Option (β×Bs)}{fin:List β->List Int->Bool->Option R}{z0:β}
theorem nq(N:Int)(n:Nat)(t:Int)(lw:List β)(b:Bs):glp F N fin (n+1) t lw b true=fin lw b true:=by rw[glp];cases hc:decide (t<N)<;>rfl
structure Lll(n:Nat)(b:Bs)(lw:List β)(t:Nat)(dec:Bs->Option (β×Bs))(b':Bs)(bad':Bool)(lw':List β):Prop where
 y:Byt b'
 l:b'.length<=b.length
 s:∀ys r,bX dec n b=some (ys,r)->b'=r/\bad'=false/\lw'=lw.take t++ys
 n:bX dec n b=none->bad'=true
theorem tU{M:Nat}(hF:∀j:Nat,Ek M j (λb bad l=>F b bad l (j:Int)) dec λy _=>y):∀(n m t:Nat)(lw:List β)(b:Bs),m<n->lw.length=t+m->Byt b->b.length<=M->lw.length<9223372036854775807->
  ∃b' bad' lw',glp F (lw.length:Int) fin n (t:Int) lw b false=fin lw' b' bad'/\Lll m b lw t dec b' bad' lw'
 |0,m,t,lw,b,h,_,_,_,_=>oM
 |n+1,0,t,lw,b,h,hl,hb,hM,_=>by
  refine⟨b,false,lw,?_,hb,Nat.le_refl _,λys r e=>?_,λe=>by cases e⟩;grind [glp];grind [bX]
 |n+1,m+1,t,lw,b,h,hl,hb,hM,hx=>by
  obtain⟨b1,bad1,x1,e1,g1⟩:=hF t b false lw oM hb hM;replace e1:F b false lw (t:Int)=some (b1,bad1,lw.set t x1):=e1;have hst:glp F (lw.length:Int) fin (n+1) (t:Int) lw b false=glp F (lw.length:Int) fin n ((t+1:Nat):Int) (lw.set t x1) b1 bad1:=by grind [glp,d9,jE]
  rw[hst];have hll:(lw.set t x1).length=lw.length:=List.length_set;cases hd:dec b with
  |none=>obtain rfl:=g1.n rfl hd;obtain⟨n,rfl⟩:∃n',n=n'+1:=⟨n - 1,oM⟩;refine⟨b1,true,_,nq _ _ _ _ _,g1.y,g1.l,λys r e=>?_,λ_=>rfl⟩;grind [bX]
  |some u=>
   obtain⟨rfl,rfl,rfl⟩:=g1.s rfl u.1 u.2 hd;obtain⟨b',bad',lw',e2,g2⟩:=tU hF n m (t+1) (lw.set t u.1) u.2 oM oM g1.y (by have:=g1.l;omega) oM;rw[hll] at e2;refine⟨b',bad',lw',e2,g2.y,Nat.le_trans g2.l g1.l,λys r e=>?_,λe=>?_⟩;rw[bX,hd,bnS] at e;obtain⟨⟨w,s⟩,q,e⟩:=Option.bind_eq_some_iff.1 e;obtain⟨rfl,rfl⟩:=e;obtain⟨h1,h2,h3⟩:=g2.s w s q;grind [List.take_succ_eq_append_getElem,List.take_set_of_le];rw[bX,hd,bnS] at e;refine g2.n ?_;cases q:bX dec m u.2 with
   |none=>rfl
   |some v=>grind
theorem mu{M sz:Nat}(hs:sz<=1000)(hMM:M<=281474976710656)(hF:∀M' (j:Nat),M'+8<=M->Ek M' j (λb bad l=>F b bad l (j:Int)) dec λy _=>y)(v0:Nat)(fb:List Int->Option R){b:Bs}(hb:Byt b)(hM:b.length<=M)(hsz:sz*(b.length / 8)<=281474976710656)(bad:Bool):
  ∃b' bad' lw',(((Option.bind (f53 b bad (v0:Int)) λr=>bif (decide (r.2.2<0))||(decide (r.2.2>(i64.wrap (Int.tdiv (List.length r.1:Int) 8)))) then fb r.1 else aN (dY sz r.2.2) (glp F (List.length (List.replicate (Int.toNat r.2.2) z0):Int) fin (Int.toNat ((List.length (List.replicate (Int.toNat r.2.2) z0):Int) - 0)+1) 0 (List.replicate (Int.toNat r.2.2) z0) r.1 r.2.1))=fb b'/\bad'=true)\/((Option.bind (f53 b bad (v0:Int)) λr=>bif (decide (r.2.2<0))||(decide (r.2.2>(i64.wrap (Int.tdiv (List.length r.1:Int) 8)))) then fb r.1 else aN (dY sz r.2.2) (glp F (List.length (List.replicate (Int.toNat r.2.2) z0):Int) fin (Int.toNat ((List.length (List.replicate (Int.toNat r.2.2) z0):Int) - 0)+1) 0 (List.replicate (Int.toNat r.2.2) z0) r.1 r.2.1))=fin lw' b' bad'))/\iL b bad [] (dj d8 (bX dec)) (λy _=>y) b' bad' lw':=by
 rw[f53_eq hb,bnS];have hdiv:∀n:Nat,n<=281474976710656->i64.wrap (Int.tdiv (n:Int) 8)=((n / 8:Nat):Int):=λn hn=>by
  have:Int.tdiv (n:Int) 8=((n / 8:Nat):Int):=by rw[Int.tdiv_eq_ediv_of_nonneg oM];omega
  rw[this,jE oM oM]
 have hmk:∀(c:Int)(n:Nat),0<=c->c<=((n / 8:Nat):Int)->n<=b.length->dY sz c=true:=λc n h1 h2 h3=>by
  have hx:n / 8<=b.length / 8:=Nat.div_le_div_right h3;obtain⟨c,rfl⟩:=Int.eq_ofNat_of_zero_le h1;have h4:c<=b.length / 8:=oM;have h5:sz*c<=sz*(b.length / 8):=Nat.mul_le_mul_left _ h4;have h6:(sz:Int)*(c:Int)<=281474976710656:=by have:((sz*c:Nat):Int)<=281474976710656:=oM;rwa [Int.natCast_mul] at this
  unfold dY maxLen;rw[dcT h1,dcT h6,dcT oM];rfl
 cases hd:d8 b with
 |none=>
  dsimp only;rw[hdiv _ oM];by_cases hc:((v0:Int)<0\/(v0:Int)>((b.length / 8:Nat):Int));have:(decide ((v0:Int)<0)||decide ((v0:Int)>((b.length / 8:Nat):Int)))=true:=by simp only[Bool.or_eq_true,decide_eq_true_eq];exact hc
  rw[this,cdT];refine⟨b,true,[], .inl ⟨rfl,rfl⟩,hb,Nat.le_refl _,λ_=>rfl,λ_ y r h=>?_,λ_ _=>rfl⟩;rw[dj,hd] at h;cases h;have hf:(decide ((v0:Int)<0)||decide ((v0:Int)>((b.length / 8:Nat):Int)))=false:=by simp only[Bool.or_eq_false_iff,decide_eq_false_iff_not];exact⟨λh=>hc (.inl h),λh=>hc (.inr h)⟩
  rw[hf,cdF,eb _ (hmk _ _ oM oM (Nat.le_refl _)),nq];refine⟨b,true,_, .inr rfl,hb,Nat.le_refl _,λ_=>rfl,λ_ y r h=>?_,λ_ _=>rfl⟩;rw[dj,hd] at h;cases h
 |some u=>
  obtain⟨hy,hl,hi⟩:=d5 hb hd;have hl8:u.2.length+8=b.length:=by have:=(oX hb hd).1;have h2:=congrArg List.length this;rw[List.length_append,fH] at h2;omega
  dsimp only;rw[hdiv _ oM];by_cases hc:(u.1<0\/u.1>((u.2.length / 8:Nat):Int));have:(decide (u.1<0)||decide (u.1>((u.2.length / 8:Nat):Int)))=true:=by simp only[Bool.or_eq_true,decide_eq_true_eq];exact hc
  rw[this,cdT];refine⟨u.2,true,[], .inl ⟨rfl,rfl⟩,hy,hl,λ_=>rfl,λ_ y r h=>?_,λ_ _=>rfl⟩;rw[dj,hd,bnS,if_pos oM] at h;cases h;have hf:(decide (u.1<0)||decide (u.1>((u.2.length / 8:Nat):Int)))=false:=by simp only[Bool.or_eq_false_iff,decide_eq_false_iff_not];exact⟨λh=>hc (.inl h),λh=>hc (.inr h)⟩
  rw[hf,cdF,eb _ (hmk _ _ oM oM hl)];have hcnt:dj d8 (bX dec) b=bX dec u.1.toNat u.2:=by rw[dj,hd,bnS,if_neg oM]
  cases bad with
  |true=>rw[nq];exact⟨u.2,true,_, .inr rfl,hy,hl,λ_=>rfl,λh=>(by cases h),λh=>(by cases h)⟩
  |false=>obtain⟨M',hM'⟩:∃M',M=M'+8:=⟨M - 8,oM⟩;have hlen:(List.replicate u.1.toNat z0).length=u.1.toNat:=List.length_replicate;obtain⟨b',bad',lw',e,g⟩:=tU (fin:=fin) (λj=>hF M' j oM) (Int.toNat (((List.replicate u.1.toNat z0).length:Int) - 0)+1) u.1.toNat 0 (List.replicate u.1.toNat z0) u.2 oM oM hy oM oM;refine⟨b',bad',lw', .inr e,g.y,Nat.le_trans g.l hl,λh=>(by cases h),λ_ y r h=>?_,λ_ h=>?_⟩;rw[hcnt] at h;obtain⟨h1,h2,h3⟩:=g.s y r h;exact⟨h1,h2,by rw[h3,List.take_zero,List.nil_append]⟩;rw[hcnt] at h;exact g.n h
end
section
variable{α β γ δ:Type}{F:List Int->Bool->List β->Int->Option (List Int×Bool×List β)}{dec:Bs->Option (β×Bs)}{M k:Nat}{K:List α->List Int->Bool->Option (List Int×Bool×List α)}
theorem tL{sz:Nat}{z0:β}(get:α->List β)(set:α->List β->α)(hs:sz<=1000)(hMM:M<=281474976710656)(hsz:sz*(M / 8)<=281474976710656)(hF:∀M' (j:Nat),M'+8<=M->Ek M' j (λb bad l=>F b bad l (j:Int)) dec λy _=>y){b:Bs}(hb:Byt b)(hM:b.length<=M)(bad:Bool){l:List α}(hk:k<l.length):
  ∃b' bad' x',(aq K λkk=>Option.bind (idx l (k:Int)) λx=>Option.bind (f53 b bad (List.length (get x):Int)) λr=>bif (decide (r.2.2<0))||(decide (r.2.2>(i64.wrap (Int.tdiv (List.length r.1:Int) 8)))) then kk l r.1 true else aN (dY sz r.2.2) (Option.bind (idx l (k:Int)) λx'=>glp F (List.length (List.replicate (Int.toNat r.2.2) z0):Int) (λlw b bad=>kk (List.set l (Int.toNat (k:Int)) (set x' lw)) b bad) (Int.toNat ((List.length (List.replicate (Int.toNat r.2.2) z0):Int) - 0)+1) 0 (List.replicate (Int.toNat r.2.2) z0) r.1 r.2.1))=K (l.set k x') b' bad'/\iL b bad l[k] (dj d8 (bX dec)) (λy x=>set x y) b' bad' x':=by
 rw[cq,d9 hk,bnS];have hszb:sz*(b.length / 8)<=281474976710656:=Nat.le_trans (Nat.mul_le_mul_left _ (Nat.div_le_div_right hM)) hsz;obtain⟨b',bad',lw',h,g⟩:=mu (fin:=λlw b bad=>K (List.set l (Int.toNat (k:Int)) (set l[k] lw)) b bad) (z0:=z0) hs hMM hF (get l[k]).length (λb=>K l b true) hb hM hszb bad;rcases h with⟨h,hbd⟩|h
 subst hbd;refine⟨b',true,l[k],h.trans sM,g.y,g.l,g.t,λe y r hd=>?_,g.n⟩;obtain⟨_,h2,_⟩:=g.s e y r hd;cases h2;refine⟨b',bad',set l[k] lw',h,g.y,g.l,g.t,λe y r hd=>?_,g.n⟩;obtain⟨h1,h2,h3⟩:=g.s e y r hd;grind
theorem kh{sz:Nat}{z0:β}(get:α->List β)(set:α->List β->α){d2:Bs->Option (γ×Bs)}{p2:γ->α->α}(mk:List β->γ->δ){put:δ->α->α}(hs:sz<=1000)(hMM:M<=281474976710656)(hsz:sz*(M / 8)<=281474976710656)(hF:∀M' (j:Nat),M'+8<=M->Ek M' j (λb bad l=>F b bad l (j:Int)) dec λy _=>y)
  (h2:Ek M k (λb bad l=>K l b bad) d2 p2)(hp:∀u v x,p2 v (set x u)=put (mk u v) x):
  Ek M k (λb bad l=>aq K λkk=>Option.bind (idx l (k:Int)) λx=>Option.bind (f53 b bad (List.length (get x):Int)) λr=>bif (decide (r.2.2<0))||(decide (r.2.2>(i64.wrap (Int.tdiv (List.length r.1:Int) 8)))) then kk l r.1 true else aN (dY sz r.2.2) (Option.bind (idx l (k:Int)) λx'=>glp F (List.length (List.replicate (Int.toNat r.2.2) z0):Int) (λlw b bad=>kk (List.set l (Int.toNat (k:Int)) (set x' lw)) b bad) (Int.toNat ((List.length (List.replicate (Int.toNat r.2.2) z0):Int) - 0)+1) 0 (List.replicate (Int.toNat r.2.2) z0) r.1 r.2.1)) (dc2 (dj d8 (bX dec)) d2 mk) put:=λb bad l hk hb hM=>by
 obtain⟨b1,bad1,x1,e1,g1⟩:=tL (K:=K) (F:=F) (z0:=z0) get set hs hMM hsz hF hb hM bad hk;have hk2:k<(l.set k x1).length:=by grind
 obtain⟨b2,bad2,x2,e2,g2⟩:=h2 b1 bad1 (l.set k x1) hk2 g1.y (by have:=g1.l;omega);have hx:(l.set k x1)[k]=x1:=sM;rw[hx] at g2;exact⟨b2,bad2,x2,e1.trans (e2.trans (by rw[List.set_set])),oI g1 g2 hp⟩
end
theorem Ek.ret{α:Type}(M k:Nat):Ek M k (λb bad (l:List α)=>some (b,bad,l)) (λb=>some ((),b)) (λ(_:Unit) x=>x):=λb bad l hk hb hM=>by
 refine⟨b,bad,l[k],sM,hb,Nat.le_refl _,id,λh y r e=>?_,λ_ e=>by cases e⟩;simp_all
theorem kz(b:Bs):gK.dec b=(d8 b).bind λu=>if u.1<0\/1<u.1 then none else some (decide (u.1=1),u.2):=rfl
section
variable{α γ δ:Type}{M k:Nat}{K:List α->List Int->Bool->Int->Option (List Int×Bool×List α)}
theorem wX(getb:α->Bool)(setb:α->Bool->α){d2:Bs->Option (γ×Bs)}{p2:γ->α->α}(mk:Bool->γ->δ){put:δ->α->α}(h2:∀v,Ek M k (λb bad l=>K l b bad v) d2 p2)(hp:∀u v x,p2 v (setb x u)=put (mk u v) x):
  Ek M k (λb bad l=>aq K λkk=>aq (λv=>Option.bind (f53 b bad v) λr=>Option.bind (idx l (k:Int)) λx=>kk (List.set l (Int.toNat (k:Int)) (setb x (decide (r.2.2=1)))) r.1 ((r.2.1||decide (r.2.2<0))||decide (r.2.2>1)) r.2.2) λk33=>Option.bind (idx l (k:Int)) λx=>bif getb x then k33 1 else k33 0) (dc2 gK.dec d2 mk) put:=λb bad l hk hb hM=>by
 have key:∀v:Int,∃b' bad' x' w,(Option.bind (f53 b bad v) λr=>Option.bind (idx l (k:Int)) λx=>K (List.set l (Int.toNat (k:Int)) (setb x (decide (r.2.2=1)))) r.1 ((r.2.1||decide (r.2.2<0))||decide (r.2.2>1)) r.2.2)=K (l.set k x') b' bad' w/\iL b bad l[k] gK.dec (λu x=>setb x u) b' bad' x':=λv=>by
  rw[f53_eq hb,bnS,d9 hk,bnS,Int.toNat_natCast];cases hd:d8 b with
  |none=>refine⟨_,_,_,_,rfl,hb,Nat.le_refl _,λ_=>rfl,λ_ y r h=>?_,λ_ _=>rfl⟩;grind [kz]
  |some u=>
   obtain⟨g1,g2,g3⟩:=d5 hb hd;by_cases hc:u.1<0\/1<u.1;have:((bad||decide (u.1<0))||decide (u.1>1))=true:=by grind
   refine⟨_,_,_,_,rfl,g1,g2,λ_=>this,λ_ y r h=>?_,λ_ _=>this⟩;grind [kz];have:((bad||decide (u.1<0))||decide (u.1>1))=bad:=by rw[dcF (λh=>hc (.inl h)),dcF (λh=>hc (.inr h)),Bool.or_false,Bool.or_false]
   refine⟨_,_,_,_,rfl,g1,g2,λh=>this.trans h,λhb y r h=>?_,λ_ h=>?_⟩;rw[kz,hd,bnS,if_neg hc,aH,Prod.mk.injEq] at h;obtain⟨rfl,rfl⟩:=h;exact⟨rfl,this.trans hb,rfl⟩;rw[kz,hd,bnS,if_neg hc] at h;cases h
 have hx:∃v,(aq K λkk=>aq (λv=>Option.bind (f53 b bad v) λr=>Option.bind (idx l (k:Int)) λx=>kk (List.set l (Int.toNat (k:Int)) (setb x (decide (r.2.2=1)))) r.1 ((r.2.1||decide (r.2.2<0))||decide (r.2.2>1)) r.2.2) λk33=>Option.bind (idx l (k:Int)) λx=>bif getb x then k33 1 else k33 0)=(Option.bind (f53 b bad v) λr=>Option.bind (idx l (k:Int)) λx=>K (List.set l (Int.toNat (k:Int)) (setb x (decide (r.2.2=1)))) r.1 ((r.2.1||decide (r.2.2<0))||decide (r.2.2>1)) r.2.2):=by suffices h:∀G:Int->Option (List Int×Bool×List α),∃v,(Option.bind (idx l (k:Int)) λx=>bif getb x then G 1 else G 0)=G v from h (λv=>Option.bind (f53 b bad v) λr=>Option.bind (idx l (k:Int)) λx=>K (List.set l (Int.toNat (k:Int)) (setb x (decide (r.2.2=1)))) r.1 ((r.2.1||decide (r.2.2<0))||decide (r.2.2>1)) r.2.2);intro G;rw[d9 hk,bnS];cases getb l[k];exact⟨0,rfl⟩;exact⟨1,rfl⟩
 obtain⟨v,hv⟩:=hx;obtain⟨b1,bad1,x1,w,e1,g1⟩:=key v;have hk2:k<(l.set k x1).length:=by grind
 obtain⟨b2,bad2,x2,e2,g2⟩:=h2 w b1 bad1 (l.set k x1) hk2 g1.y (by have:=g1.l;omega);have hx:(l.set k x1)[k]=x1:=sM;rw[hx] at g2;exact⟨b2,bad2,x2,hv.trans (e1.trans (e2.trans (by rw[List.set_set]))),oI g1 g2 hp⟩
end
theorem f169_el(M k:Nat):Ek M k (λb bad l=>f169 b bad l (k:Int)) d8 (λy _=>y):=by refine Ek.eq (Ek.call (p2:=λ(_:Unit) x=>x) (put:=λy _=>y) (λu _=>u) (F:=λb bad l=>f131_n b bad l (k:Int)) (d1:=d8) (p1:=λv _=>v) ?_ (Ek.ret M k) λ_ _ _=>rfl) (λb=>by simp only[dc2,bnS];cases d8 b<;>rfl);exact ez (λx=>x) (λ_ v=>v) (λ_ _=>rfl) (λ_=>rfl) (λ_ _ _ _=>rfl)
theorem f118_el(M k:Nat)(hM:M<=1048576):Ek M k (λb bad l=>f118 b bad l (k:Int)) l9.dec (λy _=>y):=by exact Ek.eq (Ek.call (p2:=(λ(u:(Int×Int×Int)×(Int)×(Int)×(Int)×Unit)(x:aB)=>(⟨x.op,u.1.1,u.1.2.1,u.1.2.2,u.2.1,u.2.2.1,u.2.2.2.1⟩:aB))) (put:=(λ(y:aB)(_:aB)=>y)) (λ(o:Int)(u:(Int×Int×Int)×(Int)×(Int)×(Int)×Unit)=>(⟨o,u.1.1,u.1.2.1,u.1.2.2,u.2.1,u.2.2.1,u.2.2.2.1⟩:aB)) (F:=λb bad l=>f164_o b bad l (k:Int)) (f164_o_el M k) (Ek.call (p2:=(λ(u:(Int)×(Int)×(Int)×Unit)(x:aB)=>(⟨x.op,x.d,x.a,x.b,u.1,u.2.1,u.2.2.1⟩:aB))) (put:=(λ(u:(Int×Int×Int)×(Int)×(Int)×(Int)×Unit)(x:aB)=>(⟨x.op,u.1.1,u.1.2.1,u.1.2.2,u.2.1,u.2.2.1,u.2.2.2.1⟩:aB))) Prod.mk (F:=λb bad l=>f131_a b bad l (k:Int)) (f131_a_el M k) (Ek.inl (p2:=(λ(u:(Int)×(Int)×Unit)(x:aB)=>(⟨x.op,x.d,x.a,x.b,x.n,u.1,u.2.1⟩:aB))) (put:=(λ(u:(Int)×(Int)×(Int)×Unit)(x:aB)=>(⟨x.op,x.d,x.a,x.b,u.1,u.2.1,u.2.2.1⟩:aB))) (λ(x:aB) v=>(⟨x.op,x.d,x.a,x.b,v,x.m,x.to⟩:aB)) Prod.mk (Ek.inl (p2:=(λ(u:(Int)×Unit)(x:aB)=>(⟨x.op,x.d,x.a,x.b,x.n,x.m,u.1⟩:aB))) (put:=(λ(u:(Int)×(Int)×Unit)(x:aB)=>(⟨x.op,x.d,x.a,x.b,x.n,u.1,u.2.1⟩:aB))) (λ(x:aB) v=>(⟨x.op,x.d,x.a,x.b,x.n,v,x.to⟩:aB)) Prod.mk (Ek.call (p2:=(λ(_:Unit)(x:aB)=>x)) (put:=(λ(u:(Int)×Unit)(x:aB)=>(⟨x.op,x.d,x.a,x.b,x.n,x.m,u.1⟩:aB))) Prod.mk (F:=λb bad l=>f131_t b bad l (k:Int)) (f131_t_el M k) (Ek.ret M k) λ_ _ _=>rfl) λ_ _ _=>rfl) λ_ _ _=>rfl) λ_ _ _=>rfl) λ_ _ _=>rfl) (λb=>by simp only[dc2,l9,pr,liC,Cod.two,Cod.list,bu,Option.bind_assoc,bnS])
theorem f120_el(M k:Nat)(hM:M<=1048576):Ek M k (λb bad l=>f120 b bad l (k:Int)) np.dec (λy _=>y):=by exact Ek.eq (Ek.call (p2:=(λ(u:(Bool)×Unit)(x:am)=>(⟨x.from_,x.to,x.at_,u.1⟩:am))) (put:=(λ(y:am)(_:am)=>y)) (λ(o:Int×Int×Int)(u:(Bool)×Unit)=>(⟨o.1,o.2.1,o.2.2,u.1⟩:am)) (F:=λb bad l=>f131_h b bad l (k:Int)) (f131_h_el M k) (wX (p2:=(λ(_:Unit)(x:am)=>x)) (put:=(λ(u:(Bool)×Unit)(x:am)=>(⟨x.from_,x.to,x.at_,u.1⟩:am))) (λ(x:am)=>x.clean) (λ(x:am) v=>(⟨x.from_,x.to,x.at_,v⟩:am)) Prod.mk (λ_=>(Ek.ret M k)) λ_ _ _=>rfl) λ_ _ _=>rfl) (λb=>by simp only[dc2,np,pr,liC,Cod.two,Cod.list,bu,Option.bind_assoc,bnS])
theorem f122_el(M k:Nat)(hM:M<=1048576):Ek M k (λb bad l=>f122 b bad l (k:Int)) nf.dec (λy _=>y):=by exact Ek.eq (Ek.call (p2:=(λ(u:(Int)×Unit)(x:Loop)=>(⟨x.head,x.back,u.1⟩:Loop))) (put:=(λ(y:Loop)(_:Loop)=>y)) (λ(o:Int×Int)(u:(Int)×Unit)=>(⟨o.1,o.2,u.1⟩:Loop)) (F:=λb bad l=>f131_l b bad l (k:Int)) (f131_l_el M k) (Ek.inl (p2:=(λ(_:Unit)(x:Loop)=>x)) (put:=(λ(u:(Int)×Unit)(x:Loop)=>(⟨x.head,x.back,u.1⟩:Loop))) (λ(x:Loop) v=>(⟨x.head,x.back,v⟩:Loop)) Prod.mk (Ek.ret M k) λ_ _ _=>rfl) λ_ _ _=>rfl) (λb=>by simp only[dc2,nf,pr,liC,Cod.two,Cod.list,bu,Option.bind_assoc,bnS])
theorem f167_el(M k:Nat)(hM:M<=1048576):Ek M k (λb bad l=>f167 b bad l (k:Int)) nE.dec (λy _=>y):=by exact Ek.eq (Ek.call (p2:=(λ(u:(Int×Int×Int×Int)×Unit)(x:aX)=>(⟨x.kind,u.1.1,u.1.2.1,u.1.2.2.1,u.1.2.2.2⟩:aX))) (put:=(λ(y:aX)(_:aX)=>y)) (λ(o:Int)(u:(Int×Int×Int×Int)×Unit)=>(⟨o,u.1.1,u.1.2.1,u.1.2.2.1,u.1.2.2.2⟩:aX)) (F:=λb bad l=>f191_x b bad l (k:Int)) (f191_x_el M k) (Ek.call (p2:=(λ(_:Unit)(x:aX)=>x)) (put:=(λ(u:(Int×Int×Int×Int)×Unit)(x:aX)=>(⟨x.kind,u.1.1,u.1.2.1,u.1.2.2.1,u.1.2.2.2⟩:aX))) Prod.mk (F:=λb bad l=>f131_x b bad l (k:Int)) (f131_x_el M k) (Ek.ret M k) λ_ _ _=>rfl) λ_ _ _=>rfl) (λb=>by simp only[dc2,nE,pr,liC,Cod.two,Cod.list,bu,Option.bind_assoc,bnS])
theorem f130_el(M k:Nat)(hM:M<=1048576):Ek M k (λb bad l=>f130 b bad l (k:Int)) nj.dec (λy _=>y):=by exact Ek.eq (Ek.call (p2:=(λ(u:(Int)×Unit)(x:bt)=>(⟨x.o,x.slot,u.1⟩:bt))) (put:=(λ(y:bt)(_:bt)=>y)) (λ(o:Int×Int)(u:(Int)×Unit)=>(⟨o.1,o.2,u.1⟩:bt)) (F:=λb bad l=>f131_s b bad l (k:Int)) (f131_s_el M k) (Ek.inl (p2:=(λ(_:Unit)(x:bt)=>x)) (put:=(λ(u:(Int)×Unit)(x:bt)=>(⟨x.o,x.slot,u.1⟩:bt))) (λ(x:bt) v=>(⟨x.o,x.slot,v⟩:bt)) Prod.mk (Ek.ret M k) λ_ _ _=>rfl) λ_ _ _=>rfl) (λb=>by simp only[dc2,nj,pr,liC,Cod.two,Cod.list,bu,Option.bind_assoc,bnS])
theorem f137_el(M k:Nat)(hM:M<=1048576):Ek M k (λb bad l=>f137 b bad l (k:Int)) md.dec (λy _=>y):=by exact Ek.eq (Ek.call (p2:=(λ(u:(Int)×Unit)(x:bc)=>(⟨x.at_,u.1⟩:bc))) (put:=(λ(y:bc)(_:bc)=>y)) (λ(o:Int)(u:(Int)×Unit)=>(⟨o,u.1⟩:bc)) (F:=λb bad l=>f131_c b bad l (k:Int)) (f131_c_el M k) (Ek.call (p2:=(λ(_:Unit)(x:bc)=>x)) (put:=(λ(u:(Int)×Unit)(x:bc)=>(⟨x.at_,u.1⟩:bc))) Prod.mk (F:=λb bad l=>f174_c b bad l (k:Int)) (f174_c_el M k) (Ek.ret M k) λ_ _ _=>rfl) λ_ _ _=>rfl) (λb=>by simp only[dc2,md,pr,liC,Cod.two,Cod.list,bu,Option.bind_assoc,bnS])
theorem f128_l1_eq(k:Int)(lw52:List Obj)(k72:(List Obj)->(List Int)->Bool->Option ((List Int)×Bool×(List Obj)))(r74:(List Int)×Bool×Int)(x77:Obj):∀(n:Nat)(t:Int)(lw:_)(b:List Int)(bad:Bool),f128_l1 k lw52 k72 r74 x77 n t lw b bad=glp f169 (List.length (List.replicate (Int.toNat r74.2.2) (0:Int)):Int) (λlw83 c00v84 c02v85=>(k72 (List.set lw52 (Int.toNat k) (Obj.mk x77.size x77.lo x77.hi x77.ptr lw83)) c00v84 c02v85)) n t lw b bad
 |0,_,_,_,_=>rfl
 |n+1,t,lw,b,bad=>by simp only[f128_l1,glp,f128_l1_eq]
theorem f128_el(M k:Nat)(hM:M<=1048576):Ek M k (λb bad l=>f128 b bad l (k:Int)) l8.dec (λy _=>y):=by unfold f128;simp only[f128_l1_eq];exact Ek.eq (Ek.call (p2:=(λ(u:(Int)×(Int)×(Bool)×(List Int)×Unit)(x:Obj)=>(⟨x.size,u.1,u.2.1,u.2.2.1,u.2.2.2.1⟩:Obj))) (put:=(λ(y:Obj)(_:Obj)=>y)) (λ(o:Int)(u:(Int)×(Int)×(Bool)×(List Int)×Unit)=>(⟨o,u.1,u.2.1,u.2.2.1,u.2.2.2.1⟩:Obj)) (F:=λb bad l=>f131_o b bad l (k:Int)) (f131_o_el M k) (Ek.inl (p2:=(λ(u:(Int)×(Bool)×(List Int)×Unit)(x:Obj)=>(⟨x.size,x.lo,u.1,u.2.1,u.2.2.1⟩:Obj))) (put:=(λ(u:(Int)×(Int)×(Bool)×(List Int)×Unit)(x:Obj)=>(⟨x.size,u.1,u.2.1,u.2.2.1,u.2.2.2.1⟩:Obj))) (λ(x:Obj) v=>(⟨x.size,v,x.hi,x.ptr,x.set_⟩:Obj)) Prod.mk (Ek.inl (p2:=(λ(u:(Bool)×(List Int)×Unit)(x:Obj)=>(⟨x.size,x.lo,x.hi,u.1,u.2.1⟩:Obj))) (put:=(λ(u:(Int)×(Bool)×(List Int)×Unit)(x:Obj)=>(⟨x.size,x.lo,u.1,u.2.1,u.2.2.1⟩:Obj))) (λ(x:Obj) v=>(⟨x.size,x.lo,v,x.ptr,x.set_⟩:Obj)) Prod.mk (wX (p2:=(λ(u:(List Int)×Unit)(x:Obj)=>(⟨x.size,x.lo,x.hi,x.ptr,u.1⟩:Obj))) (put:=(λ(u:(Bool)×(List Int)×Unit)(x:Obj)=>(⟨x.size,x.lo,x.hi,u.1,u.2.1⟩:Obj))) (λ(x:Obj)=>x.ptr) (λ(x:Obj) v=>(⟨x.size,x.lo,x.hi,v,x.set_⟩:Obj)) Prod.mk (λ_=>(kh (p2:=(λ(_:Unit)(x:Obj)=>x)) (put:=(λ(u:(List Int)×Unit)(x:Obj)=>(⟨x.size,x.lo,x.hi,x.ptr,u.1⟩:Obj))) (F:=f169) (dec:=d8) (sz:=8) (z0:=0) (λ(x:Obj)=>x.set_) (λ(x:Obj) v=>(⟨x.size,x.lo,x.hi,x.ptr,v⟩:Obj)) Prod.mk dC oM oM (λM' j _=>f169_el M' j) (Ek.ret M k) λ_ _ _=>rfl)) λ_ _ _=>rfl) λ_ _ _=>rfl) λ_ _ _=>rfl) λ_ _ _=>rfl) (λb=>by simp only[dc2,l8,pr,liC,Cod.two,Cod.list,bu,Option.bind_assoc,bnS])
theorem f171_l1_eq(l:List az)(k:Int)(k26:(List az)->(List Int)->Bool->Option ((List Int)×Bool×(List az)))(r28:(List Int)×Bool×Int)(x31:az):∀(n:Nat)(t:Int)(lw:_)(b:List Int)(bad:Bool),f171_l1 l k k26 r28 x31 n t lw b bad=glp f169 (List.length (List.replicate (Int.toNat r28.2.2) (0:Int)):Int) (λlw37 c00v38 c02v39=>(k26 (List.set l (Int.toNat k) (az.mk lw37 x31.outs)) c00v38 c02v39)) n t lw b bad
 |0,_,_,_,_=>rfl
 |n+1,t,lw,b,bad=>by simp only[f171_l1,glp,f171_l1_eq]
theorem f171_l2_eq(k:Int)(lw18:List az)(k56:(List az)->(List Int)->Bool->Option ((List Int)×Bool×(List az)))(r58:(List Int)×Bool×Int)(x61:az):∀(n:Nat)(t:Int)(lw:_)(b:List Int)(bad:Bool),f171_l2 k lw18 k56 r58 x61 n t lw b bad=glp f169 (List.length (List.replicate (Int.toNat r58.2.2) (0:Int)):Int) (λlw67 c00v68 c02v69=>(k56 (List.set lw18 (Int.toNat k) (az.mk x61.ins lw67)) c00v68 c02v69)) n t lw b bad
 |0,_,_,_,_=>rfl
 |n+1,t,lw,b,bad=>by simp only[f171_l2,glp,f171_l2_eq]
theorem f171_el(M k:Nat)(hM:M<=1048576):Ek M k (λb bad l=>f171 b bad l (k:Int)) nA.dec (λy _=>y):=by unfold f171;simp only[f171_l1_eq,f171_l2_eq];exact Ek.eq (kh (p2:=(λ(u:(List Int)×Unit)(x:az)=>(⟨x.ins,u.1⟩:az))) (put:=(λ(y:az)(_:az)=>y)) (F:=f169) (dec:=d8) (sz:=8) (z0:=0) (λ(x:az)=>x.ins) (λ(x:az) v=>(⟨v,x.outs⟩:az)) (λ(o:List Int)(u:(List Int)×Unit)=>(⟨o,u.1⟩:az)) dC oM oM (λM' j _=>f169_el M' j) (kh (p2:=(λ(_:Unit)(x:az)=>x)) (put:=(λ(u:(List Int)×Unit)(x:az)=>(⟨x.ins,u.1⟩:az))) (F:=f169) (dec:=d8) (sz:=8) (z0:=0) (λ(x:az)=>x.outs) (λ(x:az) v=>(⟨x.ins,v⟩:az)) Prod.mk dC oM oM (λM' j _=>f169_el M' j) (Ek.ret M k) λ_ _ _=>rfl) λ_ _ _=>rfl) (λb=>by simp only[dc2,nA,pr,liC,Cod.two,Cod.list,bu,Option.bind_assoc,bnS])
theorem f124_l1_eq(l:List aC)(k:Int)(k27:(List aC)->(List Int)->Bool->Option ((List Int)×Bool×(List aC)))(r29:(List Int)×Bool×Int)(x32:aC):∀(n:Nat)(t:Int)(lw:_)(b:List Int)(bad:Bool),f124_l1 l k k27 r29 x32 n t lw b bad=glp f167 (List.length (List.replicate (Int.toNat r29.2.2) ((aX.mk 0 0 0 0 0):aX)):Int) (λlw38 c00v39 c02v40=>(k27 (List.set l (Int.toNat k) (aC.mk lw38 x32.obj x32.else_)) c00v39 c02v40)) n t lw b bad
 |0,_,_,_,_=>rfl
 |n+1,t,lw,b,bad=>by simp only[f124_l1,glp,f124_l1_eq]
theorem f124_el(M k:Nat)(hM:M<=1048576):Ek M k (λb bad l=>f124 b bad l (k:Int)) lX.dec (λy _=>y):=by unfold f124;simp only[f124_l1_eq];exact Ek.eq (kh (p2:=(λ(u:(Int×Int)×Unit)(x:aC)=>(⟨x.alts,u.1.1,u.1.2⟩:aC))) (put:=(λ(y:aC)(_:aC)=>y)) (F:=f167) (dec:=nE.dec) (sz:=40) (z0:=(aX.mk 0 0 0 0 0)) (λ(x:aC)=>x.alts) (λ(x:aC) v=>(⟨v,x.obj,x.else_⟩:aC)) (λ(o:List aX)(u:(Int×Int)×Unit)=>(⟨o,u.1.1,u.1.2⟩:aC)) dC oM oM (λM' j h=>f167_el M' j oM) (Ek.call (p2:=(λ(_:Unit)(x:aC)=>x)) (put:=(λ(u:(Int×Int)×Unit)(x:aC)=>(⟨x.alts,u.1.1,u.1.2⟩:aC))) Prod.mk (F:=λb bad l=>f131_q b bad l (k:Int)) (f131_q_el M k) (Ek.ret M k) λ_ _ _=>rfl) λ_ _ _=>rfl) (λb=>by simp only[dc2,lX,pr,liC,Cod.two,Cod.list,bu,Option.bind_assoc,bnS])
theorem f133_l1_eq(k:Int)(r28:(List Int)×Bool×(List aJ))(k34:(List aJ)->(List Int)->Bool->Option ((List Int)×Bool×(List aJ)))(r36:(List Int)×Bool×Int)(x39:aJ):∀(n:Nat)(t:Int)(lw:_)(b:List Int)(bad:Bool),f133_l1 k r28 k34 r36 x39 n t lw b bad=glp f171 (List.length (List.replicate (Int.toNat r36.2.2) ((az.mk [] []):az)):Int) (λlw45 c00v46 c02v47=>(k34 (List.set r28.2.2 (Int.toNat k) (aJ.mk x39.prio x39.at_ lw45 x39.deadline)) c00v46 c02v47)) n t lw b bad
 |0,_,_,_,_=>rfl
 |n+1,t,lw,b,bad=>by simp only[f133_l1,glp,f133_l1_eq]
theorem f133_el(M k:Nat)(hM:M<=1048576):Ek M k (λb bad l=>f133 b bad l (k:Int)) lQ.dec (λy _=>y):=by unfold f133;simp only[f133_l1_eq];exact Ek.eq (Ek.call (p2:=(λ(u:(List az)×(Int)×Unit)(x:aJ)=>(⟨x.prio,x.at_,u.1,u.2.1⟩:aJ))) (put:=(λ(y:aJ)(_:aJ)=>y)) (λ(o:Int×Int)(u:(List az)×(Int)×Unit)=>(⟨o.1,o.2,u.1,u.2.1⟩:aJ)) (F:=λb bad l=>f131_k b bad l (k:Int)) (f131_k_el M k) (kh (p2:=(λ(u:(Int)×Unit)(x:aJ)=>(⟨x.prio,x.at_,x.entries,u.1⟩:aJ))) (put:=(λ(u:(List az)×(Int)×Unit)(x:aJ)=>(⟨x.prio,x.at_,u.1,u.2.1⟩:aJ))) (F:=f171) (dec:=nA.dec) (sz:=48) (z0:=(az.mk [] [])) (λ(x:aJ)=>x.entries) (λ(x:aJ) v=>(⟨x.prio,x.at_,v,x.deadline⟩:aJ)) Prod.mk dC oM oM (λM' j h=>f171_el M' j oM) (Ek.inl (p2:=(λ(_:Unit)(x:aJ)=>x)) (put:=(λ(u:(Int)×Unit)(x:aJ)=>(⟨x.prio,x.at_,x.entries,u.1⟩:aJ))) (λ(x:aJ) v=>(⟨x.prio,x.at_,x.entries,v⟩:aJ)) Prod.mk (Ek.ret M k) λ_ _ _=>rfl) λ_ _ _=>rfl) λ_ _ _=>rfl) (λb=>by simp only[dc2,lQ,pr,liC,Cod.two,Cod.list,bu,Option.bind_assoc,bnS])
theorem f173s_l1_eq(rec173:(List Int)->Bool->(List ah)->Int->Option ((List Int)×Bool×(List ah)))(k:Int)(lw76:List ah)(k87:(List ah)->(List Int)->Bool->Option ((List Int)×Bool×(List ah)))(r89:(List Int)×Bool×Int)(x92:ah):∀(n:Nat)(t:Int)(lw:_)(b:List Int)(bad:Bool),f173s_l1 rec173 k lw76 k87 r89 x92 n t lw b bad=glp rec173 (List.length (List.replicate (Int.toNat r89.2.2) ((ah.mk 0 0 0 0 0 0 0 0 []):ah)):Int) (λlw98 c00v99 c02v100=>(k87 (List.set lw76 (Int.toNat k) (ah.mk x92.kind x92.op x92.n x92.o x92.off x92.len x92.lo x92.hi lw98)) c00v99 c02v100)) n t lw b bad
 |0,_,_,_,_=>rfl
 |n+1,t,lw,b,bad=>by simp only[f173s_l1,glp,f173s_l1_eq]
theorem f173s_el{n:Nat}{rec:List Int->Bool->List ah->Int->Option (List Int×Bool×List ah)}(M k:Nat)(hM:M<=1048576)(hr:∀M' (j:Nat),M'+8<=M->Ek M' j (λb bad l=>rec b bad l (j:Int)) (exC n).dec λy _=>y):Ek M k (λb bad l=>f173s rec b bad l (k:Int)) (exC (n+1)).dec (λy _=>y):=by unfold f173s;simp only[f173s_l1_eq];exact Ek.eq (Ek.call (p2:=(λ(u:(Int)×(Int)×(Int×Int×Int)×(Int)×(Int)×(List ah)×Unit)(x:ah)=>(⟨x.kind,u.1,u.2.1,u.2.2.1.1,u.2.2.1.2.1,u.2.2.1.2.2,u.2.2.2.1,u.2.2.2.2.1,u.2.2.2.2.2.1⟩:ah))) (put:=(λ(y:ah)(_:ah)=>y)) (λ(o:Int)(u:(Int)×(Int)×(Int×Int×Int)×(Int)×(Int)×(List ah)×Unit)=>(⟨o,u.1,u.2.1,u.2.2.1.1,u.2.2.1.2.1,u.2.2.1.2.2,u.2.2.2.1,u.2.2.2.2.1,u.2.2.2.2.2.1⟩:ah)) (F:=λb bad l=>f192_e b bad l (k:Int)) (f192_e_el M k) (Ek.call (p2:=(λ(u:(Int)×(Int×Int×Int)×(Int)×(Int)×(List ah)×Unit)(x:ah)=>(⟨x.kind,x.op,u.1,u.2.1.1,u.2.1.2.1,u.2.1.2.2,u.2.2.1,u.2.2.2.1,u.2.2.2.2.1⟩:ah))) (put:=(λ(u:(Int)×(Int)×(Int×Int×Int)×(Int)×(Int)×(List ah)×Unit)(x:ah)=>(⟨x.kind,u.1,u.2.1,u.2.2.1.1,u.2.2.1.2.1,u.2.2.1.2.2,u.2.2.2.1,u.2.2.2.2.1,u.2.2.2.2.2.1⟩:ah))) Prod.mk (F:=λb bad l=>f193_e b bad l (k:Int)) (f193_e_el M k) (Ek.inl (p2:=(λ(u:(Int×Int×Int)×(Int)×(Int)×(List ah)×Unit)(x:ah)=>(⟨x.kind,x.op,x.n,u.1.1,u.1.2.1,u.1.2.2,u.2.1,u.2.2.1,u.2.2.2.1⟩:ah))) (put:=(λ(u:(Int)×(Int×Int×Int)×(Int)×(Int)×(List ah)×Unit)(x:ah)=>(⟨x.kind,x.op,u.1,u.2.1.1,u.2.1.2.1,u.2.1.2.2,u.2.2.1,u.2.2.2.1,u.2.2.2.2.1⟩:ah))) (λ(x:ah) v=>(⟨x.kind,x.op,v,x.o,x.off,x.len,x.lo,x.hi,x.l⟩:ah)) Prod.mk (Ek.call (p2:=(λ(u:(Int)×(Int)×(List ah)×Unit)(x:ah)=>(⟨x.kind,x.op,x.n,x.o,x.off,x.len,u.1,u.2.1,u.2.2.1⟩:ah))) (put:=(λ(u:(Int×Int×Int)×(Int)×(Int)×(List ah)×Unit)(x:ah)=>(⟨x.kind,x.op,x.n,u.1.1,u.1.2.1,u.1.2.2,u.2.1,u.2.2.1,u.2.2.2.1⟩:ah))) Prod.mk (F:=λb bad l=>f131_e b bad l (k:Int)) (f131_e_el M k) (Ek.inl (p2:=(λ(u:(Int)×(List ah)×Unit)(x:ah)=>(⟨x.kind,x.op,x.n,x.o,x.off,x.len,x.lo,u.1,u.2.1⟩:ah))) (put:=(λ(u:(Int)×(Int)×(List ah)×Unit)(x:ah)=>(⟨x.kind,x.op,x.n,x.o,x.off,x.len,u.1,u.2.1,u.2.2.1⟩:ah))) (λ(x:ah) v=>(⟨x.kind,x.op,x.n,x.o,x.off,x.len,v,x.hi,x.l⟩:ah)) Prod.mk (Ek.inl (p2:=(λ(u:(List ah)×Unit)(x:ah)=>(⟨x.kind,x.op,x.n,x.o,x.off,x.len,x.lo,x.hi,u.1⟩:ah))) (put:=(λ(u:(Int)×(List ah)×Unit)(x:ah)=>(⟨x.kind,x.op,x.n,x.o,x.off,x.len,x.lo,u.1,u.2.1⟩:ah))) (λ(x:ah) v=>(⟨x.kind,x.op,x.n,x.o,x.off,x.len,x.lo,v,x.l⟩:ah)) Prod.mk (kh (p2:=(λ(_:Unit)(x:ah)=>x)) (put:=(λ(u:(List ah)×Unit)(x:ah)=>(⟨x.kind,x.op,x.n,x.o,x.off,x.len,x.lo,x.hi,u.1⟩:ah))) (F:=rec) (dec:=(exC n).dec) (sz:=80) (z0:=(ah.mk 0 0 0 0 0 0 0 0 [])) (λ(x:ah)=>x.l) (λ(x:ah) v=>(⟨x.kind,x.op,x.n,x.o,x.off,x.len,x.lo,x.hi,v⟩:ah)) Prod.mk dC oM oM (λM' j h=>hr M' j h) (Ek.ret M k) λ_ _ _=>rfl) λ_ _ _=>rfl) λ_ _ _=>rfl) λ_ _ _=>rfl) λ_ _ _=>rfl) λ_ _ _=>rfl) λ_ _ _=>rfl) (λb=>by simp only[dc2,exC,pr,liC,Cod.two,Cod.list,bu,Option.bind_assoc,bnS])
theorem f173_el:∀(n M k:Nat),M<8*n->M<=1048576->Ek M k (λb bad l=>f173 n b bad l (k:Int)) (exC n).dec (λy _=>y)
 |0,M,k,h,_=>oM
 |n+1,M,k,h,hM=>by
  have:=f173s_el (n:=n) (rec:=f173 n) M k hM λM' j h'=>f173_el n M' j oM oM;exact this
theorem f135_l1_eq(k:Int)(r20:(List Int)×Bool×(List aV))(k26:(List aV)->(List Int)->Bool->Option ((List Int)×Bool×(List aV)))(r28:(List Int)×Bool×Int)(x31:aV):∀(n:Nat)(t:Int)(lw:_)(b:List Int)(bad:Bool),f135_l1 k r20 k26 r28 x31 n t lw b bad=glp (f173 9223372036854775808) (List.length (List.replicate (Int.toNat r28.2.2) ((ah.mk 0 0 0 0 0 0 0 0 []):ah)):Int) (λlw37 c00v38 c02v39=>(k26 (List.set r20.2.2 (Int.toNat k) (aV.mk x31.ceiling lw37)) c00v38 c02v39)) n t lw b bad
 |0,_,_,_,_=>rfl
 |n+1,t,lw,b,bad=>by simp only[f135_l1,glp,f135_l1_eq]
theorem f135_el{N:Nat}(hN:9223372036854775808=N)(M k:Nat)(hM:M<=1048576):Ek M k (λb bad l=>f135 b bad l (k:Int)) (l6 N).dec (λy _=>y):=by unfold f135;simp only[f135_l1_eq,hN];exact Ek.eq (Ek.call (p2:=(λ(u:(List ah)×Unit)(x:aV)=>(⟨x.ceiling,u.1⟩:aV))) (put:=(λ(y:aV)(_:aV)=>y)) (λ(o:Int)(u:(List ah)×Unit)=>(⟨o,u.1⟩:aV)) (F:=λb bad l=>f131_p b bad l (k:Int)) (f131_p_el M k) (kh (p2:=(λ(_:Unit)(x:aV)=>x)) (put:=(λ(u:(List ah)×Unit)(x:aV)=>(⟨x.ceiling,u.1⟩:aV))) (F:=(f173 N)) (dec:=(exC N).dec) (sz:=80) (z0:=(ah.mk 0 0 0 0 0 0 0 0 [])) (λ(x:aV)=>x.barriers) (λ(x:aV) v=>(⟨x.ceiling,v⟩:aV)) Prod.mk dC oM oM (λM' j h=>f173_el N M' j oM oM) (Ek.ret M k) λ_ _ _=>rfl) λ_ _ _=>rfl) (λb=>by simp only[dc2,l6,pr,liC,Cod.two,Cod.list,bu,Option.bind_assoc,bnS])
theorem f126_l1_eq(l:List (List Int))(k:Int)(k16:(List (List Int))->(List Int)->Bool->Option ((List Int)×Bool×(List (List Int))))(r18:(List Int)×Bool×Int):∀(n:Nat)(t:Int)(lw:_)(b:List Int)(bad:Bool),f126_l1 l k k16 r18 n t lw b bad=glp f169 (List.length (List.replicate (Int.toNat r18.2.2) (0:Int)):Int) (λlw27 c00v28 c02v29=>(k16 (List.set l (Int.toNat k) lw27) c00v28 c02v29)) n t lw b bad
 |0,_,_,_,_=>rfl
 |n+1,t,lw,b,bad=>by simp only[f126_l1,glp,f126_l1_eq]
theorem f126_el(M k:Nat)(hM:M<=1048576):Ek M k (λb bad l=>f126 b bad l (k:Int)) (liC bu).dec (λy _=>y):=by
 unfold f126;simp only[f126_l1_eq];exact Ek.eq (kh (p2:=λ(_:Unit)(x:List Int)=>x) (put:=λy _=>y) (F:=f169) (dec:=d8) (sz:=8) (z0:=0) (λx:List Int=>x) (λ_ y=>y) (λo _=>o) dC oM oM (λM' j _=>f169_el M' j) (Ek.ret M k) λ_ _ _=>rfl) (λb=>by
  show(dj d8 (bX d8) b).bind _=dj d8 (bX d8) b;cases dj d8 (bX d8) b<;>rfl)
theorem pair{β γ:Type}{b b1 b2:Bs}{bad bad1 bad2:Bool}{x x1:β}{z z2:γ}{d1:Bs->Option (β×Bs)}{d2:Bs->Option (γ×Bs)}
  (g1:iL b bad x d1 (λy _=>y) b1 bad1 x1)(g2:iL b1 bad1 z d2 (λy _=>y) b2 bad2 z2):iL b bad (x,z) (dc2 d1 d2 Prod.mk) (λy _=>y) b2 bad2 (x1,z2):=by
 refine⟨g2.y,Nat.le_trans g2.l g1.l,λh=>g2.t (g1.t h),λh y r hd=>?_,λh hd=>?_⟩;obtain⟨⟨u,s⟩,q1,hd⟩:=Option.bind_eq_some_iff.1 hd;obtain⟨⟨v,s'⟩,q2,hd⟩:=Option.bind_eq_some_iff.1 hd;obtain⟨rfl,rfl⟩:=hd;obtain⟨rfl,rfl,rfl⟩:=g1.s h u s q1;obtain⟨rfl,rfl,rfl⟩:=g2.s rfl v s' q2;grind;cases q1:d1 b with
 |none=>exact g2.t (g1.n h q1)
 |some u=>
  rw[dc2,q1,bnS] at hd;obtain⟨rfl,rfl,rfl⟩:=g1.s h u.1 u.2 q1;cases q2:d2 u.2 with
  |none=>exact g2.n rfl q2
  |some v=>grind
theorem tl{R β:Type}{M sz:Nat}{z0:β}{F:List Int->Bool->List β->Int->Option (List Int×Bool×List β)}{dec:Bs->Option (β×Bs)}(K:List Int->Bool->List β->Option R)(t0:List β)(hs:sz<=1000)(hMM:M<=30000)(hF:∀M' (j:Nat),M'+8<=M->Ek M' j (λb bad l=>F b bad l (j:Int)) dec λy _=>y){b:Bs}(hb:Byt b)(hM:b.length<=M)(bad:Bool):
  ∃b' bad' x',(aq K λkk=>Option.bind (f53 b bad (List.length t0:Int)) λr=>bif (decide (r.2.2<0))||(decide (r.2.2>(i64.wrap (Int.tdiv (List.length r.1:Int) 8)))) then kk r.1 true t0 else aN (dY sz r.2.2) (glp F (List.length (List.replicate (Int.toNat r.2.2) z0):Int) (λlw b bad=>kk b bad lw) (Int.toNat ((List.length (List.replicate (Int.toNat r.2.2) z0):Int) - 0)+1) 0 (List.replicate (Int.toNat r.2.2) z0) r.1 r.2.1))=K b' bad' x'/\iL b bad t0 (dj d8 (bX dec)) (λy _=>y) b' bad' x':=by
 have hsz:sz*(b.length / 8)<=281474976710656:=by have:=Nat.mul_le_mul hs (show b.length / 8<=30000 by omega);omega
 obtain⟨b',bad',lw',h,g⟩:=mu (fin:=λlw b bad=>K b bad lw) (z0:=z0) hs oM hF t0.length (λb=>K b true t0) hb hM hsz bad;rcases h with⟨h,hbd⟩|h
 subst hbd;refine⟨b',true,t0,h,g.y,g.l,g.t,λe y r hd=>?_,g.n⟩;obtain⟨_,h2,_⟩:=g.s e y r hd;cases h2;exact⟨b',bad',lw',h,g.y,g.l,g.t,g.s,g.n⟩
theorem f131_T_eq{b:Bs}(hb:Byt b)(bad:Bool)(a c d e f g h:_)(t:Int)(i j k:_):∃b' bad' t',f131_T b bad a c d e f g h t i j k=some (b',bad',t')/\iL b bad t d8 (λy _=>y) b' bad' t':=by obtain⟨b',bad',t',e,g⟩:=kX hb bad t (λ_ v=>v);grind [f131_T,cq,f53_eq,d8]
theorem f54_l1_eq(k87:(List Int)->Bool->(List aB)->Option ((List Int)×Bool×(List aB)×(List am)×(List Loop)×(List aC)×(List (List Int))×(List Obj)×(List bt)×Int×(List aJ)×(List aV)×(List bc)))(r88:(List Int)×Bool×Int):∀(n:Nat)(t:Int)(lw:_)(b:List Int)(bad:Bool),f54_l1 k87 r88 n t lw b bad=glp f118 (List.length (List.replicate (Int.toNat r88.2.2) ((aB.mk 0 0 0 0 0 0 0):aB)):Int) (λlw96 c00v97 c02v98=>(k87 c00v97 c02v98 lw96)) n t lw b bad
 |0,_,_,_,_=>rfl
 |n+1,t,lw,b,bad=>by simp only[f54_l1,glp,f54_l1_eq]
theorem f54_l2_eq(k110:(List Int)->Bool->(List am)->Option ((List Int)×Bool×(List aB)×(List am)×(List Loop)×(List aC)×(List (List Int))×(List Obj)×(List bt)×Int×(List aJ)×(List aV)×(List bc)))(r111:(List Int)×Bool×Int):∀(n:Nat)(t:Int)(lw:_)(b:List Int)(bad:Bool),f54_l2 k110 r111 n t lw b bad=glp f120 (List.length (List.replicate (Int.toNat r111.2.2) ((am.mk 0 0 0 false):am)):Int) (λlw119 c00v120 c02v121=>(k110 c00v120 c02v121 lw119)) n t lw b bad
 |0,_,_,_,_=>rfl
 |n+1,t,lw,b,bad=>by simp only[f54_l2,glp,f54_l2_eq]
theorem f54_l3_eq(k133:(List Int)->Bool->(List Loop)->Option ((List Int)×Bool×(List aB)×(List am)×(List Loop)×(List aC)×(List (List Int))×(List Obj)×(List bt)×Int×(List aJ)×(List aV)×(List bc)))(r134:(List Int)×Bool×Int):∀(n:Nat)(t:Int)(lw:_)(b:List Int)(bad:Bool),f54_l3 k133 r134 n t lw b bad=glp f122 (List.length (List.replicate (Int.toNat r134.2.2) ((Loop.mk 0 0 0):Loop)):Int) (λlw142 c00v143 c02v144=>(k133 c00v143 c02v144 lw142)) n t lw b bad
 |0,_,_,_,_=>rfl
 |n+1,t,lw,b,bad=>by simp only[f54_l3,glp,f54_l3_eq]
theorem f54_l4_eq(k156:(List Int)->Bool->(List aC)->Option ((List Int)×Bool×(List aB)×(List am)×(List Loop)×(List aC)×(List (List Int))×(List Obj)×(List bt)×Int×(List aJ)×(List aV)×(List bc)))(r157:(List Int)×Bool×Int):∀(n:Nat)(t:Int)(lw:_)(b:List Int)(bad:Bool),f54_l4 k156 r157 n t lw b bad=glp f124 (List.length (List.replicate (Int.toNat r157.2.2) ((aC.mk [] 0 0):aC)):Int) (λlw165 c00v166 c02v167=>(k156 c00v166 c02v167 lw165)) n t lw b bad
 |0,_,_,_,_=>rfl
 |n+1,t,lw,b,bad=>by simp only[f54_l4,glp,f54_l4_eq]
theorem f54_l5_eq(k179:(List Int)->Bool->(List (List Int))->Option ((List Int)×Bool×(List aB)×(List am)×(List Loop)×(List aC)×(List (List Int))×(List Obj)×(List bt)×Int×(List aJ)×(List aV)×(List bc)))(r180:(List Int)×Bool×Int):∀(n:Nat)(t:Int)(lw:_)(b:List Int)(bad:Bool),f54_l5 k179 r180 n t lw b bad=glp f126 (List.length (List.replicate (Int.toNat r180.2.2) ([]:List Int)):Int) (λlw188 c00v189 c02v190=>(k179 c00v189 c02v190 lw188)) n t lw b bad
 |0,_,_,_,_=>rfl
 |n+1,t,lw,b,bad=>by simp only[f54_l5,glp,f54_l5_eq]
theorem f54_l6_eq(k202:(List Int)->Bool->(List Obj)->Option ((List Int)×Bool×(List aB)×(List am)×(List Loop)×(List aC)×(List (List Int))×(List Obj)×(List bt)×Int×(List aJ)×(List aV)×(List bc)))(r203:(List Int)×Bool×Int):∀(n:Nat)(t:Int)(lw:_)(b:List Int)(bad:Bool),f54_l6 k202 r203 n t lw b bad=glp f128 (List.length (List.replicate (Int.toNat r203.2.2) ((Obj.mk 0 0 0 false []):Obj)):Int) (λlw211 c00v212 c02v213=>(k202 c00v212 c02v213 lw211)) n t lw b bad
 |0,_,_,_,_=>rfl
 |n+1,t,lw,b,bad=>by simp only[f54_l6,glp,f54_l6_eq]
theorem f54_l7_eq(k225:(List Int)->Bool->(List bt)->Option ((List Int)×Bool×(List aB)×(List am)×(List Loop)×(List aC)×(List (List Int))×(List Obj)×(List bt)×Int×(List aJ)×(List aV)×(List bc)))(r226:(List Int)×Bool×Int):∀(n:Nat)(t:Int)(lw:_)(b:List Int)(bad:Bool),f54_l7 k225 r226 n t lw b bad=glp f130 (List.length (List.replicate (Int.toNat r226.2.2) ((bt.mk 0 0 0):bt)):Int) (λlw234 c00v235 c02v236=>(k225 c00v235 c02v236 lw234)) n t lw b bad
 |0,_,_,_,_=>rfl
 |n+1,t,lw,b,bad=>by simp only[f54_l7,glp,f54_l7_eq]
theorem f54_l8_eq(k250:(List Int)->Bool->(List aJ)->Option ((List Int)×Bool×(List aB)×(List am)×(List Loop)×(List aC)×(List (List Int))×(List Obj)×(List bt)×Int×(List aJ)×(List aV)×(List bc)))(r251:(List Int)×Bool×Int):∀(n:Nat)(t:Int)(lw:_)(b:List Int)(bad:Bool),f54_l8 k250 r251 n t lw b bad=glp f133 (List.length (List.replicate (Int.toNat r251.2.2) ((aJ.mk 0 0 [] 0):aJ)):Int) (λlw259 c00v260 c02v261=>(k250 c00v260 c02v261 lw259)) n t lw b bad
 |0,_,_,_,_=>rfl
 |n+1,t,lw,b,bad=>by simp only[f54_l8,glp,f54_l8_eq]
theorem f54_l9_eq(k273:(List Int)->Bool->(List aV)->Option ((List Int)×Bool×(List aB)×(List am)×(List Loop)×(List aC)×(List (List Int))×(List Obj)×(List bt)×Int×(List aJ)×(List aV)×(List bc)))(r274:(List Int)×Bool×Int):∀(n:Nat)(t:Int)(lw:_)(b:List Int)(bad:Bool),f54_l9 k273 r274 n t lw b bad=glp f135 (List.length (List.replicate (Int.toNat r274.2.2) ((aV.mk 0 []):aV)):Int) (λlw282 c00v283 c02v284=>(k273 c00v283 c02v284 lw282)) n t lw b bad
 |0,_,_,_,_=>rfl
 |n+1,t,lw,b,bad=>by simp only[f54_l9,glp,f54_l9_eq]
theorem f54_l10_eq(k296:(List Int)->Bool->(List bc)->Option ((List Int)×Bool×(List aB)×(List am)×(List Loop)×(List aC)×(List (List Int))×(List Obj)×(List bt)×Int×(List aJ)×(List aV)×(List bc)))(r297:(List Int)×Bool×Int):∀(n:Nat)(t:Int)(lw:_)(b:List Int)(bad:Bool),f54_l10 k296 r297 n t lw b bad=glp f137 (List.length (List.replicate (Int.toNat r297.2.2) ((bc.mk 0 0):bc)):Int) (λlw305 c00v306 c02v307=>(k296 c00v306 c02v307 lw305)) n t lw b bad
 |0,_,_,_,_=>rfl
 |n+1,t,lw,b,bad=>by simp only[f54_l10,glp,f54_l10_eq]
theorem qv(N:Nat)(b:Bs):(cC N).dec b=(dc2 (dj d8 (bX l9.dec)) (dc2 (dj d8 (bX np.dec)) (dc2 (dj d8 (bX nf.dec)) (dc2 (dj d8 (bX lX.dec)) (dc2 (dj d8 (bX (liC bu).dec)) (dc2 (dj d8 (bX l8.dec)) (dc2 (dj d8 (bX nj.dec)) (dc2 d8 (dc2 (dj d8 (bX lQ.dec)) (dc2 (dj d8 (bX (l6 N).dec)) (dj d8 (bX md.dec)) Prod.mk) Prod.mk) Prod.mk) Prod.mk) Prod.mk) Prod.mk) Prod.mk) Prod.mk) Prod.mk) Prod.mk b).bind λu=>some (⟨u.1.1,u.1.2.1,u.1.2.2.1,u.1.2.2.2.1,u.1.2.2.2.2.1,u.1.2.2.2.2.2.1,u.1.2.2.2.2.2.2.1,u.1.2.2.2.2.2.2.2.1,u.1.2.2.2.2.2.2.2.2.1,u.1.2.2.2.2.2.2.2.2.2.1,u.1.2.2.2.2.2.2.2.2.2.2⟩,u.2):=by simp only[cC,mB,ml,pr,liC,Cod.two,Cod.list,dc2,bu,Option.bind_assoc,bnS]
theorem f54_eq{N:Nat}(hN:9223372036854775808=N){b:Bs}(hb:Byt b)(hM:b.length<=30000):∃b' bad' t,f54 b false [] [] [] [] [] [] [] 0 [] [] []=some (b',bad',t.insns,t.handlers,t.loops,t.selects,t.lists,t.objs,t.inits,t.excs,t.tasks,t.prots,t.checks)/\(∀y r,(cC N).dec b=some (y,r)->b'=r/\bad'=false/\t=y)/\((cC N).dec b=none->bad'=true):=by
 unfold f54;simp only[f54_l1_eq,f54_l2_eq,f54_l3_eq,f54_l4_eq,f54_l5_eq,f54_l6_eq,f54_l7_eq,f54_l8_eq,f54_l9_eq,f54_l10_eq];obtain⟨b1,w1,x1,e1,g1⟩:=tl (sz:=56) (z0:=(aB.mk 0 0 0 0 0 0 0)) (F:=f118) (M:=30000) _ [] dC (Nat.le_refl _) (λM' j h=>f118_el M' j oM) hb hM false;rw[e1];have m1:b1.length<=30000:=Nat.le_trans g1.l hM;obtain⟨b2,w2,x2,e2,g2⟩:=tl (sz:=32) (z0:=(am.mk 0 0 0 false)) (F:=f120) (M:=30000) _ [] dC (Nat.le_refl _) (λM' j h=>f120_el M' j oM) g1.y m1 w1;rw[e2];have m2:b2.length<=30000:=Nat.le_trans g2.l m1;obtain⟨b3,w3,x3,e3,g3⟩:=tl (sz:=24) (z0:=(Loop.mk 0 0 0)) (F:=f122) (M:=30000) _ [] dC (Nat.le_refl _) (λM' j h=>f122_el M' j oM) g2.y m2 w2;rw[e3];have m3:b3.length<=30000:=Nat.le_trans g3.l m2;obtain⟨b4,w4,x4,e4,g4⟩:=tl (sz:=40) (z0:=(aC.mk [] 0 0)) (F:=f124) (M:=30000) _ [] dC (Nat.le_refl _) (λM' j h=>f124_el M' j oM) g3.y m3 w3;rw[e4];have m4:b4.length<=30000:=Nat.le_trans g4.l m3;obtain⟨b5,w5,x5,e5,g5⟩:=tl (sz:=24) (z0:=([]:List Int)) (F:=f126) (M:=30000) _ [] dC (Nat.le_refl _) (λM' j h=>f126_el M' j oM) g4.y m4 w4;rw[e5];have m5:b5.length<=30000:=Nat.le_trans g5.l m4;obtain⟨b6,w6,x6,e6,g6⟩:=tl (sz:=56) (z0:=(Obj.mk 0 0 0 false [])) (F:=f128) (M:=30000) _ [] dC (Nat.le_refl _) (λM' j h=>f128_el M' j oM) g5.y m5 w5;rw[e6];have m6:b6.length<=30000:=Nat.le_trans g6.l m5;obtain⟨b7,w7,x7,e7,g7⟩:=tl (sz:=24) (z0:=(bt.mk 0 0 0)) (F:=f130) (M:=30000) _ [] dC (Nat.le_refl _) (λM' j h=>f130_el M' j oM) g6.y m6 w6;rw[e7];have m7:b7.length<=30000:=Nat.le_trans g7.l m6;obtain⟨b8,w8,x8,e8,g8⟩:=f131_T_eq g7.y w7 _ _ _ _ _ _ _ 0 [] [] [];rw[e8,bnS];have m8:b8.length<=30000:=Nat.le_trans g8.l m7;obtain⟨b9,w9,x9,e9,g9⟩:=tl (sz:=48) (z0:=(aJ.mk 0 0 [] 0)) (F:=f133) (M:=30000) _ [] dC (Nat.le_refl _) (λM' j h=>f133_el M' j oM) g8.y m8 w8;rw[e9];have m9:b9.length<=30000:=Nat.le_trans g9.l m8;obtain⟨b10,w10,x10,e10,g10⟩:=tl (sz:=32) (z0:=(aV.mk 0 [])) (F:=f135) (M:=30000) _ [] dC (Nat.le_refl _) (λM' j h=>f135_el hN M' j oM) g9.y m9 w9;rw[e10];have m10:b10.length<=30000:=Nat.le_trans g10.l m9;obtain⟨b11,w11,x11,e11,g11⟩:=tl (sz:=16) (z0:=(bc.mk 0 0)) (F:=f137) (M:=30000) _ [] dC (Nat.le_refl _) (λM' j h=>f137_el M' j oM) g10.y m10 w10;rw[e11];have G:=(pair g1 (pair g2 (pair g3 (pair g4 (pair g5 (pair g6 (pair g7 (pair g8 (pair g9 (pair g10 g11))))))))));refine⟨b11,w11,⟨x1,x2,x3,x4,x5,x6,x7,x8,x9,x10,x11⟩,rfl,λy r hd=>?_,λhd=>?_⟩;rw[qv] at hd;obtain⟨⟨u,s⟩,q,hd⟩:=Option.bind_eq_some_iff.1 hd;obtain⟨rfl,rfl⟩:=hd;obtain⟨h1,h2,h3⟩:=G.s rfl u s q;refine⟨h1,h2,?_⟩;rw[<-h3];rw[qv] at hd;refine G.n rfl ?_;revert hd;generalize dc2 _ _ _ b=o;intro hd;cases o with
 |none=>rfl
 |some u=>cases hd
abbrev Rl{β:Type}(b:Bs)(bad:Bool)(dec:Bs->Option (β×Bs))(b':Bs)(bad':Bool)(y:β):Prop:=iL b bad y dec (λy _=>y) b' bad' y
theorem Rl.pair{β γ:Type}{b b1 b2:Bs}{bad bad1 bad2:Bool}{x:β}{z:γ}{d1:Bs->Option (β×Bs)}{d2:Bs->Option (γ×Bs)}(g1:Rl b bad d1 b1 bad1 x)(g2:Rl b1 bad1 d2 b2 bad2 z):Rl b bad (dc2 d1 d2 Prod.mk) b2 bad2 (x,z):=
 Go.Proofs.YtejcfgjpdocaoaaGreatDoor.pair g1 g2
theorem Rl.map{β γ:Type}{b b':Bs}{bad bad':Bool}{y:β}{D:Bs->Option (β×Bs)}{dec:Bs->Option (γ×Bs)}(g:Rl b bad D b' bad' y)(f:β->γ)(e:dec b=(D b).bind λu=>some (f u.1,u.2)):Rl b bad dec b' bad' (f y):=by
 refine⟨g.y,g.l,g.t,λh z r hd=>?_,λh hd=>?_⟩;rw[e] at hd;obtain⟨⟨u,s⟩,q,hd⟩:=Option.bind_eq_some_iff.1 hd;obtain⟨rfl,rfl⟩:=hd;obtain⟨h1,h2,h3⟩:=g.s h u s q;grind;rw[e] at hd;refine g.n h ?_;cases q:D b with
 |none=>rfl
 |some u=>grind
theorem f138_l{b:Bs}(hb:Byt b)(hl:8<=b.length):∀(n:Nat)(i:Nat)(u z:Int),i<=8->z=(i:Int) - 1->i<n->u=val ((b.take 8).drop i)->f138_l1 b (λu=>some (i64.wrap u)) n u z=some (sgn (val (b.take 8)))
 |0,i,u,z,_,_,h,_=>oM
 |n+1,0,u,z,_,hz,_,hu=>by
  grind [f138_l1,Byt,wG,kF]
 |n+1,i+1,u,z,hi,hz,hn,hu=>by
  obtain rfl:z=(i:Int):=oM;rw[f138_l1,dcT oM,cdT,d9 (show i<b.length by omega),bnS];have hx:=hb b[i] (List.getElem_mem oM);have hlt:(b.take 8).length=8:=by grind
  have hd:(b.take 8).drop i=b[i]::(b.take 8).drop (i+1):=by grind [List.drop_eq_getElem_cons]
  have hbt:Byt ((b.take 8).drop (i+1)):=λy hy=>hb y (List.mem_of_mem_take (List.mem_of_mem_drop hy));have hv:=fV hbt;have hub:val ((b.take 8).drop (i+1))<72057594037927936:=by
   revert hbt;generalize hL:(b.take 8).drop (i+1)=L;have hL7:L.length<=7:=by grind
   intro hbt;have key:∀(k:Nat)(L:Bs),L.length<=k->Byt L->val L<256^k:=by
    intro k;induction k with
    |zero=>
     intro L h _;have:L=[]:=by grind
     subst this;decide
    |succ k ih=>
     intro L h hB;cases L with
     |nil=>grind
     |cons x L=>have h1:=ih L (by simp only[List.length_cons] at h;omega) λy hy=>hB y (List.mem_cons_of_mem _ hy);have h2:=hB x List.mem_cons_self;rw[val,Int.pow_succ];omega
   grind
  have e1:IntKind.u64.wrap ((IntKind.u64.wrap (256*u))+(IntKind.u64.wrap b[i]))=val ((b.take 8).drop i):=by grind [IntKind.wrap,IntKind.bits,IntKind.signed,val]
  rw[e1,jE oM oM];exact f138_l hb hl n i _ _ oM oM oM rfl
theorem f138_eq{b:Bs}(hb:Byt b)(hl:8<=b.length):f138 b=some (sgn (val (b.take 8))):=by unfold f138;exact f138_l hb hl 9 8 0 7 oM oM oM (by rw[List.drop_of_length_le (by rw[List.length_take];omega)];rfl)
theorem f55_eq{b:Bs}(hb:Byt b)(bad:Bool):f55 b bad=some (match d8 b with|none=>(0,b,true)|some u=>(u.1,u.2,bad)):=by unfold f55 d8;by_cases h:b.length<8;grind;rw[dcF (show¬(b.length:Int)<8 by omega),cdF,f138_eq hb oM,bnS,if_neg h,eb];grind [br,List.take_of_length_le];grind [ce]
theorem r55{b:Bs}(hb:Byt b)(bad:Bool):∃v b' bad',f55 b bad=some (v,b',bad')/\Rl b bad d8 b' bad' v:=by
 rw[f55_eq hb];cases hd:d8 b with
 |none=>exact⟨0,b,true,rfl,hb,Nat.le_refl _,λ_=>rfl,λ_ y r h=>(by rw[hd] at h;cases h),λ_ _=>rfl⟩
 |some u=>obtain⟨g1,g2,g3⟩:=d5 hb hd;exact⟨u.1,u.2,bad,rfl,g1,g2,id,λh y r e=>(by rw[hd,aH] at e;subst e;exact⟨rfl,h,rfl⟩),λ_ e=>(by rw[hd] at e;cases e)⟩
theorem r140{b:Bs}(hb:Byt b)(bad:Bool):∃v b' bad',f140 b bad=some (v,b',bad')/\Rl b bad d8 b' bad' v:=by obtain⟨v,b',bad',e,g⟩:=r55 hb bad;grind [f140]
def o5(b:Bs):Option (Int×Bs):=(d8 b).bind λu=>if u.1<0\/(u.2.length:Int) / 8<u.1 then none else some u
theorem wT{α:Type}(g:Nat->Bs->Option (List α×Bs))(b:Bs):dj d8 g b=(o5 b).bind λu=>g u.1.toNat u.2:=by grind [dj,o5,d8]
theorem r139{b:Bs}(hb:Byt b)(hM:b.length<=30000)(bad:Bool):∃(c:Nat)(b':Bs)(bad':Bool),f139 b bad=some ((c:Int),b',bad')/\c<=b'.length / 8/\(bad'=false->b'.length+8<=b.length)/\Rl b bad o5 b' bad' (c:Int):=by
 unfold f139;rw[f55_eq hb,bnS];have hdiv:∀n:Nat,n<=30000->i64.wrap (Int.tdiv (n:Int) 8)=((n / 8:Nat):Int):=by grind [jE]
 cases hd:d8 b with
 |none=>dsimp only;rw[hdiv _ hM,dcF oM,dcF oM];refine⟨0,b,true,rfl,oM,λh=>(by cases h),hb,Nat.le_refl _,λ_=>rfl,λ_ y r h=>?_,λ_ _=>rfl⟩;grind [o5]
 |some u=>
  obtain⟨hy,hl,hi⟩:=d5 hb hd;have hl8:u.2.length+8=b.length:=by have:=(oX hb hd).1;grind [fH]
  dsimp only;rw[hdiv _ oM];by_cases hc:(u.1<0\/u.1>((u.2.length / 8:Nat):Int));have:(decide (u.1<0)||decide (u.1>((u.2.length / 8:Nat):Int)))=true:=by simp_all
  rw[this,cdT];refine⟨0,u.2,true,rfl,oM,λh=>(by cases h),hy,hl,λ_=>rfl,λ_ y r h=>?_,λ_ _=>rfl⟩;grind [o5];have hf:(decide (u.1<0)||decide (u.1>((u.2.length / 8:Nat):Int)))=false:=by simp only[Bool.or_eq_false_iff,decide_eq_false_iff_not];exact⟨λh=>hc (.inl h),λh=>hc (.inr h)⟩
  rw[hf,cdF];have hc0:0<=u.1:=oM;obtain⟨c,hcc⟩:=Int.eq_ofNat_of_zero_le hc0;refine⟨c,u.2,bad,by rw[hcc],oM,λ_=>oM,hy,hl,id,λh y r e=>?_,λ_ e=>?_⟩;rw[o5,hd,bnS,if_neg oM,aH] at e;subst e;exact⟨rfl,h,hcc.symm⟩;rw[o5,hd,bnS,if_neg oM] at e;cases e
theorem im{α:Type}{n:Nat}{L:List α}{x:α}(hn:n<=1000)(hl:L.length<30000):cS n L [x]=true:=by
 unfold cS;have:maxLen=9223372036854775807:=by decide
 have h1:L.length+ [x].length=L.length+1:=rfl;have h2:(L.length+1)*n<=30000*1000:=Nat.mul_le_mul oM hn;grind
section
variable{β R:Type}{G:Nat->Int->List β->List Int->Bool->Option R}{K:List β->List Int->Bool->Option R}{dec:Bs->Option (β×Bs)}{M:Nat}
def Lp(G:Nat->Int->List β->List Int->Bool->Option R)(K:List β->List Int->Bool->Option R)(dec:Bs->Option (β×Bs))(M:Nat):Prop:=
 (∀n lw b bad,G (n+1) 0 lw b bad=K lw b bad)/\
 ∀(n:Nat)(c:Int) lw b bad,0<c->lw.length<30000->Byt b->b.length<=30000->(bad=false->b.length+8<=M)->(G (n+1) c lw b bad=K lw b bad/\bad=true)\/∃y b' bad',G (n+1) c lw b bad=G n (i64.wrap (c - 1)) (lw++ [y]) b' bad'/\Rl b bad dec b' bad' y
theorem wJ(hG:Lp G K dec M):
  ∀(n c:Nat) lw b bad,c<n->lw.length+c<=30000->Byt b->b.length<=30000->(bad=false->b.length+8<=M)->∃lw' b' bad',G n (c:Int) lw b bad=K lw' b' bad'/\Byt b'/\b'.length<=b.length/\(bad=true->bad'=true)/\(bad=false->∀ys r,bX dec c b=some (ys,r)->b'=r/\bad'=false/\lw'=lw++ys)/\(bad=false->bX dec c b=none->bad'=true)
 |0,c,_,_,_,h,_,_,_,_=>oM
 |n+1,0,lw,b,bad,_,_,hb,hM,hQ=>by
  refine⟨lw,b,bad,hG.1 _ _ _ _,hb,Nat.le_refl _,id,λh ys r e=>?_,λ_ e=>by cases e⟩;grind [bX]
 |n+1,c+1,lw,b,bad,h,hl,hb,hM,hQ=>by
  rcases hG.2 n ((c+1:Nat):Int) lw b bad oM oM hb hM hQ with⟨e,rfl⟩|⟨y,b1,bad1,e1,g1⟩
  grind;have hw:i64.wrap (((c+1:Nat):Int) - 1)=(c:Int):=by rw[jE oM oM];omega
  have hbad:bad1=false->bad=false:=λh=>by
   cases bad;rfl;have:=g1.t rfl;grind
  obtain⟨lw',b',bad',e2,q1,q2,q3,q4,q5⟩:=wJ hG n c (lw++ [y]) b1 bad1 oM (by simp only[List.length_append,List.length_singleton];omega) g1.y (by have:=g1.l;omega) (λh=>by have:=hQ (hbad h);have:=g1.l;omega);refine⟨lw',b',bad',by rw[e1,hw,e2],q1,Nat.le_trans q2 g1.l,λh=>q3 (g1.t h),λh ys r e=>?_,λh e=>?_⟩;obtain⟨⟨u,s⟩,m1,e⟩:=Option.bind_eq_some_iff.1 e;obtain⟨⟨v,s'⟩,m2,e⟩:=Option.bind_eq_some_iff.1 e;obtain⟨rfl,rfl⟩:=e;obtain⟨rfl,rfl,rfl⟩:=g1.s h u s m1;grind;cases m1:dec b with
  |none=>exact q3 (g1.n h m1)
  |some u=>
   rw[bX,m1,bnS] at e;obtain⟨rfl,rfl,rfl⟩:=g1.s h u.1 u.2 m1;refine q5 rfl ?_;cases m2:bX dec c u.2 with
   |none=>rfl
   |some v=>grind
theorem rli(hG:Lp G K dec M){b:Bs}(hb:Byt b)(hM:b.length<=M)(hM3:M<=30000)(bad:Bool):
  ∃lw' b' bad',(Option.bind (f139 b bad) λr=>G 9223372036854775808 r.1 [] r.2.1 r.2.2)=K lw' b' bad'/\Rl b bad (dj d8 (bX dec)) b' bad' lw':=by
 obtain⟨c,b1,bad1,e,hc,hQ,g⟩:=r139 hb oM bad;have hl:=g.l;obtain⟨lw',b',bad',e2,q1,q2,q3,q4,q5⟩:=wJ hG 9223372036854775808 c [] b1 bad1 oM (by simp only[List.length_nil];omega) g.y oM (λh=>by have:=hQ h;omega);refine⟨lw',b',bad',by rw[e];exact e2,q1,Nat.le_trans q2 hl,λh=>q3 (g.t h),λh y r hd=>?_,λh hd=>?_⟩;rw[wT] at hd;obtain⟨⟨u,s⟩,m1,hd⟩:=Option.bind_eq_some_iff.1 hd;obtain⟨rfl,rfl,h3⟩:=g.s h u s m1;grind;rw[wT] at hd;cases m1:o5 b with
 |none=>exact q3 (g.n h m1)
 |some u=>rw[m1,bnS] at hd;obtain⟨rfl,rfl,h3⟩:=g.s h u.1 u.2 m1;grind
end
theorem yB(K:_)(M:Nat):Lp (f141_l1 K) K d8 M:=by refine⟨λn lw b bad=>by rw[f141_l1,dcF oM];rfl,λn c lw b bad hc hl hb hM hQ=> .inr ?_⟩;obtain⟨v1,b1,w1,e1,g1⟩:=r140 hb bad;grind [f141_l1,eb,im]
theorem uX{b:Bs}(hb:Byt b)(hM:b.length<=30000)(bad:Bool):∃v b' bad',f141 b bad=some (v,b',bad')/\Rl b bad (liC bu).dec' b' bad' v:=by obtain⟨v,b',bad',e,g⟩:=rli (yB (λlw b bad=>some (lw,b,bad)) b.length) hb (Nat.le_refl _) hM bad;exact⟨v,b',bad',e,g⟩
theorem uF(K:_)(M:Nat):Lp (f18_l1 K) K l9.dec' M:=by
 refine⟨λn lw b bad=>by rw[f18_l1,dcF oM];rfl,λn c lw b bad hc hl hb hM hQ=>?_⟩;cases bad with
 |true=>grind [f18_l1]
 |false=>refine .inr ?_;obtain⟨v1,b1,w1,e1,g1⟩:=r140 hb false;have m1:b1.length<=30000:=Nat.le_trans g1.l hM;obtain⟨v2,b2,w2,e2,g2⟩:=r140 g1.y w1;have m2:b2.length<=30000:=Nat.le_trans g2.l m1;obtain⟨v3,b3,w3,e3,g3⟩:=r140 g2.y w2;have m3:b3.length<=30000:=Nat.le_trans g3.l m2;obtain⟨v4,b4,w4,e4,g4⟩:=r140 g3.y w3;have m4:b4.length<=30000:=Nat.le_trans g4.l m3;obtain⟨v5,b5,w5,e5,g5⟩:=r55 g4.y w4;have m5:b5.length<=30000:=Nat.le_trans g5.l m4;obtain⟨v6,b6,w6,e6,g6⟩:=r55 g5.y w5;have m6:b6.length<=30000:=Nat.le_trans g6.l m5;obtain⟨v7,b7,w7,e7,g7⟩:=r140 g6.y w6;refine⟨_,b7,w7,?_,Rl.map (Rl.pair g1 (Rl.pair g2 (Rl.pair g3 (Rl.pair g4 (Rl.pair g5 (Rl.pair g6 g7)))))) (λu=>(⟨IntKind.u8.wrap u.1,u.2.1,u.2.2.1,u.2.2.2.1,u.2.2.2.2.1,u.2.2.2.2.2.1,u.2.2.2.2.2.2⟩:aB)) (by simp only[dc2,l9,Cod.two,Cod.list,pr,liC,dO,gK,bu,u8w,Option.bind_assoc,bnS])⟩;rw[f18_l1,dcT hc,Bool.not_false,Bool.and_self,cdT];grind [eb,im]
theorem uE(K:_)(M:Nat):Lp (f18_l2 K) K np.dec' M:=by
 refine⟨λn lw b bad=>by rw[f18_l2,dcF oM];rfl,λn c lw b bad hc hl hb hM hQ=>?_⟩;cases bad with
 |true=>grind [f18_l2]
 |false=>refine .inr ?_;obtain⟨v1,b1,w1,e1,g1⟩:=r140 hb false;have m1:b1.length<=30000:=Nat.le_trans g1.l hM;obtain⟨v2,b2,w2,e2,g2⟩:=r140 g1.y w1;have m2:b2.length<=30000:=Nat.le_trans g2.l m1;obtain⟨v3,b3,w3,e3,g3⟩:=r140 g2.y w2;have m3:b3.length<=30000:=Nat.le_trans g3.l m2;obtain⟨v4,b4,w4,e4,g4⟩:=r55 g3.y w3;refine⟨_,b4,w4,?_,Rl.map (Rl.pair g1 (Rl.pair g2 (Rl.pair g3 g4))) (λu=>(⟨u.1,u.2.1,u.2.2.1,decide (u.2.2.2=1)⟩:am)) (by simp only[dc2,np,Cod.two,Cod.list,pr,liC,dO,gK,bu,u8w,Option.bind_assoc,bnS])⟩;grind [f18_l2,eb,im]
theorem uD(K:_)(M:Nat):Lp (f18_l3 K) K nf.dec' M:=by
 refine⟨λn lw b bad=>by rw[f18_l3,dcF oM];rfl,λn c lw b bad hc hl hb hM hQ=>?_⟩;cases bad with
 |true=>grind [f18_l3]
 |false=>refine .inr ?_;obtain⟨v1,b1,w1,e1,g1⟩:=r140 hb false;have m1:b1.length<=30000:=Nat.le_trans g1.l hM;obtain⟨v2,b2,w2,e2,g2⟩:=r140 g1.y w1;have m2:b2.length<=30000:=Nat.le_trans g2.l m1;obtain⟨v3,b3,w3,e3,g3⟩:=r55 g2.y w2;refine⟨_,b3,w3,?_,Rl.map (Rl.pair g1 (Rl.pair g2 g3)) (λu=>(⟨u.1,u.2.1,u.2.2⟩:Loop)) (by simp only[dc2,nf,Cod.two,Cod.list,pr,liC,dO,gK,bu,u8w,Option.bind_assoc,bnS])⟩;grind [f18_l3,eb,im]
theorem uB(K:_)(M:Nat):Lp (f18_l5 K) K nE.dec' M:=by
 refine⟨λn lw b bad=>by rw[f18_l5,dcF oM];rfl,λn c lw b bad hc hl hb hM hQ=>?_⟩;cases bad with
 |true=>grind [f18_l5]
 |false=>refine .inr ?_;obtain⟨v1,b1,w1,e1,g1⟩:=r140 hb false;have m1:b1.length<=30000:=Nat.le_trans g1.l hM;obtain⟨v2,b2,w2,e2,g2⟩:=r140 g1.y w1;have m2:b2.length<=30000:=Nat.le_trans g2.l m1;obtain⟨v3,b3,w3,e3,g3⟩:=r140 g2.y w2;have m3:b3.length<=30000:=Nat.le_trans g3.l m2;obtain⟨v4,b4,w4,e4,g4⟩:=r140 g3.y w3;have m4:b4.length<=30000:=Nat.le_trans g4.l m3;obtain⟨v5,b5,w5,e5,g5⟩:=r140 g4.y w4;refine⟨_,b5,w5,?_,Rl.map (Rl.pair g1 (Rl.pair g2 (Rl.pair g3 (Rl.pair g4 g5)))) (λu=>(⟨IntKind.u8.wrap u.1,u.2.1,u.2.2.1,u.2.2.2.1,u.2.2.2.2⟩:aX)) (by simp only[dc2,nE,Cod.two,Cod.list,pr,liC,dO,gK,bu,u8w,Option.bind_assoc,bnS])⟩;grind [f18_l5,eb,im]
theorem uC(K:_)(M:Nat):Lp (f18_l4 K) K lX.dec' M:=by
 refine⟨λn lw b bad=>by rw[f18_l4,dcF oM];rfl,λn c lw b bad hc hl hb hM hQ=>?_⟩;cases bad with
 |true=>grind [f18_l4]
 |false=>
  refine .inr ?_;obtain⟨v1,b1,w1,e1,g1⟩:=rli (uB _ _) hb (Nat.le_refl _) hM false;have m1:b1.length<=30000:=Nat.le_trans g1.l hM;obtain⟨v2,b2,w2,e2,g2⟩:=r140 g1.y w1;have m2:b2.length<=30000:=Nat.le_trans g2.l m1;obtain⟨v3,b3,w3,e3,g3⟩:=r140 g2.y w2;refine⟨_,b3,w3,?_,Rl.map (Rl.pair g1 (Rl.pair g2 g3)) (λu=>(⟨u.1,u.2.1,u.2.2⟩:aC)) (by simp only[dc2,lX,Cod.two,Cod.list,pr,liC,dO,gK,bu,u8w,Option.bind_assoc,bnS])⟩;rw[f18_l4,dcT hc,Bool.not_false,Bool.and_self,cdT];first|rw[e1]|(simp only[cq];rw[e1])
  grind [eb,im]
theorem uA(K:_)(M:Nat):Lp (f18_l6 K) K (liC bu).dec' M:=by
 refine⟨λn lw b bad=>by rw[f18_l6,dcF oM];rfl,λn c lw b bad hc hl hb hM hQ=>?_⟩;cases bad with
 |true=>grind [f18_l6]
 |false=>refine .inr ?_;obtain⟨v1,b1,w1,e1,g1⟩:=uX hb hM false;grind [f18_l6,eb,im]
theorem uz(K:_)(M:Nat):Lp (f18_l7 K) K l8.dec' M:=by
 refine⟨λn lw b bad=>by rw[f18_l7,dcF oM];rfl,λn c lw b bad hc hl hb hM hQ=>?_⟩;cases bad with
 |true=>grind [f18_l7]
 |false=>refine .inr ?_;obtain⟨v1,b1,w1,e1,g1⟩:=r140 hb false;have m1:b1.length<=30000:=Nat.le_trans g1.l hM;obtain⟨v2,b2,w2,e2,g2⟩:=r55 g1.y w1;have m2:b2.length<=30000:=Nat.le_trans g2.l m1;obtain⟨v3,b3,w3,e3,g3⟩:=r55 g2.y w2;have m3:b3.length<=30000:=Nat.le_trans g3.l m2;obtain⟨v4,b4,w4,e4,g4⟩:=r55 g3.y w3;have m4:b4.length<=30000:=Nat.le_trans g4.l m3;obtain⟨v5,b5,w5,e5,g5⟩:=uX g4.y m4 w4;refine⟨_,b5,w5,?_,Rl.map (Rl.pair g1 (Rl.pair g2 (Rl.pair g3 (Rl.pair g4 g5)))) (λu=>(⟨u.1,u.2.1,u.2.2.1,decide (u.2.2.2.1=1),u.2.2.2.2⟩:Obj)) (by simp only[dc2,l8,Cod.two,Cod.list,pr,liC,dO,gK,bu,u8w,Option.bind_assoc,bnS])⟩;grind [f18_l7,eb,im]
theorem uy(K:_)(M:Nat):Lp (f18_l8 K) K nj.dec' M:=by
 refine⟨λn lw b bad=>by rw[f18_l8,dcF oM];rfl,λn c lw b bad hc hl hb hM hQ=>?_⟩;cases bad with
 |true=>grind [f18_l8]
 |false=>refine .inr ?_;obtain⟨v1,b1,w1,e1,g1⟩:=r140 hb false;have m1:b1.length<=30000:=Nat.le_trans g1.l hM;obtain⟨v2,b2,w2,e2,g2⟩:=r140 g1.y w1;have m2:b2.length<=30000:=Nat.le_trans g2.l m1;obtain⟨v3,b3,w3,e3,g3⟩:=r55 g2.y w2;refine⟨_,b3,w3,?_,Rl.map (Rl.pair g1 (Rl.pair g2 g3)) (λu=>(⟨u.1,u.2.1,u.2.2⟩:bt)) (by simp only[dc2,nj,Cod.two,Cod.list,pr,liC,dO,gK,bu,u8w,Option.bind_assoc,bnS])⟩;grind [f18_l8,eb,im]
theorem sw(K:_)(M:Nat):Lp (f18_l10 K) K nA.dec' M:=by
 refine⟨λn lw b bad=>by rw[f18_l10,dcF oM];rfl,λn c lw b bad hc hl hb hM hQ=>?_⟩;cases bad with
 |true=>grind [f18_l10]
 |false=>refine .inr ?_;obtain⟨v1,b1,w1,e1,g1⟩:=uX hb hM false;have m1:b1.length<=30000:=Nat.le_trans g1.l hM;obtain⟨v2,b2,w2,e2,g2⟩:=uX g1.y m1 w1;refine⟨_,b2,w2,?_,Rl.map (Rl.pair g1 g2) (λu=>(⟨u.1,u.2⟩:az)) (by simp only[dc2,nA,Cod.two,Cod.list,pr,liC,dO,gK,bu,u8w,Option.bind_assoc,bnS])⟩;grind [f18_l10,eb,im]
theorem ux(K:_)(M:Nat):Lp (f18_l9 K) K lQ.dec' M:=by
 refine⟨λn lw b bad=>by rw[f18_l9,dcF oM];rfl,λn c lw b bad hc hl hb hM hQ=>?_⟩;cases bad with
 |true=>grind [f18_l9]
 |false=>
  refine .inr ?_;obtain⟨v1,b1,w1,e1,g1⟩:=r140 hb false;have m1:b1.length<=30000:=Nat.le_trans g1.l hM;obtain⟨v2,b2,w2,e2,g2⟩:=r140 g1.y w1;have m2:b2.length<=30000:=Nat.le_trans g2.l m1;obtain⟨v3,b3,w3,e3,g3⟩:=rli (sw _ _) g2.y (Nat.le_refl _) m2 w2;have m3:b3.length<=30000:=Nat.le_trans g3.l m2;obtain⟨v4,b4,w4,e4,g4⟩:=r55 g3.y w3;refine⟨_,b4,w4,?_,Rl.map (Rl.pair g1 (Rl.pair g2 (Rl.pair g3 g4))) (λu=>(⟨u.1,u.2.1,u.2.2.1,u.2.2.2⟩:aJ)) (by simp only[dc2,lQ,Cod.two,Cod.list,pr,liC,dO,gK,bu,u8w,Option.bind_assoc,bnS])⟩;rw[f18_l9,dcT hc,Bool.not_false,Bool.and_self,cdT];rw[cq];rw[e1,bnS];rw[e2,bnS];first|rw[e3]|(simp only[cq];rw[e3])
  grind [eb,im]
theorem ss(K:_)(M:Nat):Lp (f18_l13 K) K md.dec' M:=by
 refine⟨λn lw b bad=>by rw[f18_l13,dcF oM];rfl,λn c lw b bad hc hl hb hM hQ=>?_⟩;cases bad with
 |true=>grind [f18_l13]
 |false=>refine .inr ?_;obtain⟨v1,b1,w1,e1,g1⟩:=r140 hb false;have m1:b1.length<=30000:=Nat.le_trans g1.l hM;obtain⟨v2,b2,w2,e2,g2⟩:=r140 g1.y w1;refine⟨_,b2,w2,?_,Rl.map (Rl.pair g1 g2) (λu=>(⟨u.1,IntKind.u8.wrap u.2⟩:bc)) (by simp only[dc2,md,Cod.two,Cod.list,pr,liC,dO,gK,bu,u8w,Option.bind_assoc,bnS])⟩;grind [f18_l13,eb,im]
theorem wy{n:Nat}(ih:∀{b:Bs},Byt b->b.length<8*n->b.length<=30000->∃v b' bad',f142 n b false=some (v,b',bad')/\Rl b false (exC n).dec' b' bad' v)(K:_)(M:Nat)(hMn:M<8*(n+1)):Lp (f142s_l1 (f142 n) K) K (exC n).dec' M:=by
 refine⟨λn lw b bad=>by rw[f142s_l1,dcF oM];rfl,λn c lw b bad hc hl hb hM hQ=>?_⟩;cases bad with
 |true=>grind [f142s_l1]
 |false=>grind [f142s_l1,eb,im]
theorem r142:∀(n:Nat){b:Bs},Byt b->b.length<8*n->b.length<=30000->∃v b' bad',f142 n b false=some (v,b',bad')/\Rl b false (exC n).dec' b' bad' v
 |0,b,_,h,_=>oM
 |n+1,b,hb,hn,hM=>by
  obtain⟨v1,b1,w1,e1,g1⟩:=r140 hb false;have m1:b1.length<=30000:=Nat.le_trans g1.l hM;obtain⟨v2,b2,w2,e2,g2⟩:=r140 g1.y w1;have m2:b2.length<=30000:=Nat.le_trans g2.l m1;obtain⟨v3,b3,w3,e3,g3⟩:=r55 g2.y w2;have m3:b3.length<=30000:=Nat.le_trans g3.l m2;obtain⟨v4,b4,w4,e4,g4⟩:=r140 g3.y w3;have m4:b4.length<=30000:=Nat.le_trans g4.l m3;obtain⟨v5,b5,w5,e5,g5⟩:=r140 g4.y w4;have m5:b5.length<=30000:=Nat.le_trans g5.l m4;obtain⟨v6,b6,w6,e6,g6⟩:=r140 g5.y w5;have m6:b6.length<=30000:=Nat.le_trans g6.l m5;obtain⟨v7,b7,w7,e7,g7⟩:=r55 g6.y w6;have m7:b7.length<=30000:=Nat.le_trans g7.l m6;obtain⟨v8,b8,w8,e8,g8⟩:=r55 g7.y w7;have m8:b8.length<=30000:=Nat.le_trans g8.l m7;have hl8:b8.length<=b.length:=Nat.le_trans g8.l (Nat.le_trans g7.l (Nat.le_trans g6.l (Nat.le_trans g5.l (Nat.le_trans g4.l (Nat.le_trans g3.l (Nat.le_trans g2.l g1.l))))));obtain⟨v9,b9,w9,e9,g9⟩:=rli (wy (r142 n) _ b8.length oM) g8.y (Nat.le_refl _) m8 w8;refine⟨_,b9,w9,?_,Rl.map (Rl.pair g1 (Rl.pair g2 (Rl.pair g3 (Rl.pair g4 (Rl.pair g5 (Rl.pair g6 (Rl.pair g7 (Rl.pair g8 g9)))))))) (λu=>(⟨IntKind.u8.wrap u.1,IntKind.u8.wrap u.2.1,u.2.2.1,u.2.2.2.1,u.2.2.2.2.1,u.2.2.2.2.2.1,u.2.2.2.2.2.2.1,u.2.2.2.2.2.2.2.1,u.2.2.2.2.2.2.2.2⟩:ah)) (by simp only[dc2,exC,Cod.two,Cod.list,pr,liC,dO,bu,u8w,Option.bind_assoc,bnS])⟩;show f142s (f142 n) b false=_;unfold f142s;rw[e1,bnS];rw[e2,bnS];rw[e3,bnS];rw[e4,bnS];rw[e5,bnS];rw[e6,bnS];rw[e7,bnS];rw[e8,bnS];simp only[cq];rw[e9]
theorem su{N:Nat}(hN:9223372036854775808=N)(K:_)(M:Nat):Lp (f18_l12 K) K (exC N).dec' M:=by
 refine⟨λn lw b bad=>by rw[f18_l12,dcF oM];rfl,λn c lw b bad hc hl hb hM hQ=>?_⟩;cases bad with
 |true=>grind [f18_l12]
 |false=>obtain⟨v1,b1,w1,e1,g1⟩:=r142 N hb oM hM;grind [f18_l12,eb,im]
theorem sv{N:Nat}(hN:9223372036854775808=N)(K:_)(M:Nat):Lp (f18_l11 K) K (l6 N).dec' M:=by
 refine⟨λn lw b bad=>by rw[f18_l11,dcF oM];rfl,λn c lw b bad hc hl hb hM hQ=>?_⟩;cases bad with
 |true=>grind [f18_l11]
 |false=>
  refine .inr ?_;obtain⟨v1,b1,w1,e1,g1⟩:=r140 hb false;have m1:b1.length<=30000:=Nat.le_trans g1.l hM;obtain⟨v2,b2,w2,e2,g2⟩:=rli (su hN _ _) g1.y (Nat.le_refl _) m1 w1;refine⟨_,b2,w2,?_,Rl.map (Rl.pair g1 g2) (λu=>(⟨u.1,u.2⟩:aV)) (by simp only[dc2,l6,Cod.two,Cod.list,pr,liC,dO,gK,bu,u8w,Option.bind_assoc,bnS])⟩;rw[f18_l11,dcT hc,Bool.not_false,Bool.and_self,cdT];rw[cq];rw[e1,bnS];first|rw[e2]|(simp only[cq];rw[e2])
  grind [eb,im]
abbrev T0:ao:=ao.mk [] [] [] [] [] [] [] 0 [] [] []
def wR(b0:Bs)(bad:Bool)(t:ao):Option (ao×Int):=
 bif bad then some (T0,230) else Option.bind (f58 t) λr=>
 aN (jj r)<|aN (jj b0)<|
 bif (!((jk r).toList==(jk b0).toList)) then some (T0,230) else Option.bind (f11 t) λr=>bif !r then some (T0,230) else some (t,0)
theorem sY(N:Nat)(b:Bs):(cC N).dec' b=(dc2 (dj d8 (bX l9.dec')) (dc2 (dj d8 (bX np.dec')) (dc2 (dj d8 (bX nf.dec')) (dc2 (dj d8 (bX lX.dec')) (dc2 (dj d8 (bX (liC bu).dec')) (dc2 (dj d8 (bX l8.dec')) (dc2 (dj d8 (bX nj.dec')) (dc2 d8 (dc2 (dj d8 (bX lQ.dec')) (dc2 (dj d8 (bX (l6 N).dec')) (dj d8 (bX md.dec')) Prod.mk) Prod.mk) Prod.mk) Prod.mk) Prod.mk) Prod.mk) Prod.mk) Prod.mk) Prod.mk) Prod.mk b).bind λu=>some (⟨u.1.1,u.1.2.1,u.1.2.2.1,u.1.2.2.2.1,u.1.2.2.2.2.1,u.1.2.2.2.2.2.1,u.1.2.2.2.2.2.2.1,u.1.2.2.2.2.2.2.2.1,u.1.2.2.2.2.2.2.2.2.1,u.1.2.2.2.2.2.2.2.2.2.1,u.1.2.2.2.2.2.2.2.2.2.2⟩,u.2):=by simp only[cC,mB,ml,pr,liC,Cod.two,Cod.list,dc2,bu,Option.bind_assoc,bnS]
theorem f18_eq{N:Nat}(hN:9223372036854775808=N){b:Bs}(hb:Byt b)(hM:b.length<=30000):∃b' bad' t,f18 b=wR b bad' t/\Rl b false (dc2 d8 (cC N).dec' λ_ t=>t) b' bad' t:=by
 obtain⟨v0,b0,w0,e0,g0⟩:=r55 hb false;have m0:b0.length<=30000:=Nat.le_trans g0.l hM;obtain⟨v1,b1,w1,e1,g1⟩:=rli (uF _ _) g0.y (Nat.le_refl _) m0 w0;have m1:b1.length<=30000:=Nat.le_trans g1.l m0;obtain⟨v2,b2,w2,e2,g2⟩:=rli (uE _ _) g1.y (Nat.le_refl _) m1 w1;have m2:b2.length<=30000:=Nat.le_trans g2.l m1;obtain⟨v3,b3,w3,e3,g3⟩:=rli (uD _ _) g2.y (Nat.le_refl _) m2 w2;have m3:b3.length<=30000:=Nat.le_trans g3.l m2;obtain⟨v4,b4,w4,e4,g4⟩:=rli (uC _ _) g3.y (Nat.le_refl _) m3 w3;have m4:b4.length<=30000:=Nat.le_trans g4.l m3;obtain⟨v5,b5,w5,e5,g5⟩:=rli (uA _ _) g4.y (Nat.le_refl _) m4 w4;have m5:b5.length<=30000:=Nat.le_trans g5.l m4;obtain⟨v6,b6,w6,e6,g6⟩:=rli (uz _ _) g5.y (Nat.le_refl _) m5 w5;have m6:b6.length<=30000:=Nat.le_trans g6.l m5;obtain⟨v7,b7,w7,e7,g7⟩:=rli (uy _ _) g6.y (Nat.le_refl _) m6 w6;have m7:b7.length<=30000:=Nat.le_trans g7.l m6;obtain⟨v8,b8,w8,e8,g8⟩:=r140 g7.y w7;have m8:b8.length<=30000:=Nat.le_trans g8.l m7;obtain⟨v9,b9,w9,e9,g9⟩:=rli (ux _ _) g8.y (Nat.le_refl _) m8 w8;have m9:b9.length<=30000:=Nat.le_trans g9.l m8;obtain⟨v10,b10,w10,e10,g10⟩:=rli (sv hN _ _) g9.y (Nat.le_refl _) m9 w9;have m10:b10.length<=30000:=Nat.le_trans g10.l m9;obtain⟨v11,b11,w11,e11,g11⟩:=rli (ss _ _) g10.y (Nat.le_refl _) m10 w10;have G:=Rl.map (Rl.pair g0 (Rl.map (dec:=(cC N).dec') (Rl.pair g1 (Rl.pair g2 (Rl.pair g3 (Rl.pair g4 (Rl.pair g5 (Rl.pair g6 (Rl.pair g7 (Rl.pair g8 (Rl.pair g9 (Rl.pair g10 g11)))))))))) (λu=>(⟨u.1,u.2.1,u.2.2.1,u.2.2.2.1,u.2.2.2.2.1,u.2.2.2.2.2.1,u.2.2.2.2.2.2.1,u.2.2.2.2.2.2.2.1,u.2.2.2.2.2.2.2.2.1,u.2.2.2.2.2.2.2.2.2.1,u.2.2.2.2.2.2.2.2.2.2⟩:ao)) (sY N b0))) (λu=>u.2) (dec:=dc2 d8 (cC N).dec' λ_ t=>t) (by simp only[dc2,Option.bind_assoc,bnS]);refine⟨b11,w11,_,?_,G⟩;unfold f18;rw[e0,bnS];first|rw[e1]|(rw[cq];first|rw[e1]|(rw[cq];rw[e1]))
 first|rw[e2]|(rw[cq];first|rw[e2]|(rw[cq];rw[e2]))
 first|rw[e3]|(rw[cq];first|rw[e3]|(rw[cq];rw[e3]))
 first|rw[e4]|(rw[cq];first|rw[e4]|(rw[cq];rw[e4]))
 first|rw[e5]|(rw[cq];first|rw[e5]|(rw[cq];rw[e5]))
 dsimp only;first|rw[e6]|(rw[cq];first|rw[e6]|(rw[cq];rw[e6]))
 first|rw[e7]|(rw[cq];first|rw[e7]|(rw[cq];rw[e7]))
 rw[e8,bnS];first|rw[e9]|(rw[cq];first|rw[e9]|(rw[cq];rw[e9]))
 first|rw[e10]|(rw[cq];first|rw[e10]|(rw[cq];rw[e10]))
 first|rw[e11]|(rw[cq];first|rw[e11]|(rw[cq];rw[e11]))
 rfl
def Pt(w:Bs)(o:Bs->Option Bs):Prop:=∀l:Bs,l.length+w.length<=1000000000->o l=some (l++w)
theorem Pt.bind{a b:Bs}{f g:Bs->Option Bs}(h1:Pt a f)(h2:Pt b g):Pt (a++b) (λl=>Option.bind (f l) g):=λl hl=>by
 rw[List.length_append] at hl;show Option.bind (f l) g=_;rw[h1 l oM,bnS,h2 _ (by rw[List.length_append];omega),List.append_assoc]
theorem Pt.eq{a b:Bs}{f:Bs->Option Bs}(h:Pt a f)(e:a=b):Pt b f:=e▸h
theorem Pt.some:Pt [] (λl=>some l):=λl _=>by rw[List.append_nil]
theorem xz{n:Nat}{L M:Bs}(hn:n<=64)(hl:L.length+M.length<=1000000000):cS n L M=true:=by
 unfold cS;have:maxLen=9223372036854775807:=by decide
 have h2:(L.length+M.length)*n<=1000000000*64:=Nat.mul_le_mul hl hn;grind
theorem u64w{x:Int}(h1:0<=x)(h2:x<18446744073709551616):IntKind.u64.wrap x=x:=by simp only[IntKind.wrap,IntKind.bits,IntKind.signed];simp;omega
theorem u64m(x:Int):IntKind.u64.wrap x=x%18446744073709551616:=by simp only[IntKind.wrap,IntKind.bits,IntKind.signed];simp
theorem f175_l1_eq(K:Bs->Option Bs):∀(n i:Nat)(u:Int)(lw:Bs),i<=8->8<n+i->lw.length=i->0<=u->u<18446744073709551616->f175_l1 K n u (i:Int) lw=K (lw++dig (8 - i) u)
 |0,i,u,lw,_,h,_,_,_=>oM
 |n+1,i,u,lw,hi,hn,hl,h0,h1=>by
  rw[f175_l1];by_cases hlt:i<8;have e1:IntKind.u8.wrap (Int.tmod u 256)=u%256:=by rw[Int.tmod_eq_emod_of_nonneg h0,u8w,Int.emod_emod_of_dvd _ (Int.dvd_refl _)]
  have e2:IntKind.u64.wrap (Int.tdiv u 256)=u / 256:=by grind [u64w]
  have e3:8 - i=(8 - (i+1))+1:=oM;rw[dcT (show(i:Int)<8 by omega),cdT,eb _ (xz dC (by simp only[List.length_singleton];omega)),e1,e2,jE oM oM,e3,dig];have:=f175_l1_eq K n (i+1) (u / 256) (lw++ [u%256]) oM oM (by rw[List.length_append,hl];rfl) oM oM;grind;have:i=8:=oM;subst this;rw[dcF oM,cdF,Nat.sub_self,dig,List.append_nil]
theorem f175_eq(v:Int):f175 v=some (e8 v):=by unfold f175;obtain⟨F,hF⟩:∃F:Nat,F=9223372036854775808:=⟨_,rfl⟩;rw[cq,<-hF,u64m];exact f175_l1_eq some F 0 _ [] oM oM rfl oM oM
theorem jr(v:Int):Pt (e8 v) (λl=>f143 l v):=λl hl=>by
 show f143 l v=_;unfold f143;rw[f175_eq,bnS,eb _ (xz dC hl)]
theorem wM{β:Type}(L:List β)(enc:β->Bs)(F:Nat->Int->Bs->Option Bs)(hend:∀n lw,F (n+1) (L.length:Int) lw=none\/True){K:Bs->Option Bs}{wK:Bs}(hK:Pt wK K)(hend2:∀n lw,F (n+1) (L.length:Int) lw=K lw)
  (hstep:∀(n i:Nat)(hi:i<L.length)(w:Bs),Pt w (F n ((i+1:Nat):Int))->Pt (enc L[i]++w) (F (n+1) (i:Int))):∀(n i:Nat),i<=L.length->L.length<n+i->Pt ((L.drop i).flatMap enc++wK) (F n (i:Int))
 |0,i,_,h=>oM
 |n+1,i,hi,hn=>by
  by_cases hlt:i<L.length;have:=hstep n i hlt _ (wM L enc F hend hK hend2 hstep n (i+1) oM oM);grind [List.drop_eq_getElem_cons];have e:i=L.length:=oM;subst e;intro l hl;rw[List.drop_length,List.flatMap_nil,List.nil_append] at hl⊢;rw[hend2];exact hK l hl
theorem dP{β:Type}{L:List β}{enc:β->Bs}{F:Nat->Int->Bs->Option Bs}{K:Bs->Option Bs}{wK:Bs}(hl:L.length<9223372036854775808)(hK:Pt wK K)(hend:∀n lw,F (n+1) (L.length:Int) lw=K lw)
  (hstep:∀(n i:Nat)(hi:i<L.length)(w:Bs),Pt w (F n ((i+1:Nat):Int))->Pt (enc L[i]++w) (F (n+1) (i:Int))){n:Nat}(hn:n=9223372036854775808):Pt (L.flatMap enc++wK) (F n 0):=
 wM L enc F (λ_ _=> .inr trivial) hK hend hstep n 0 (Nat.zero_le _) oM
theorem gtn(n:Nat):decide ((n:Int)<(n:Int))=false:=dcF oM
theorem gw1{i n:Nat}(h:i<n)(hn:n<9223372036854775808):i64.wrap ((i:Int)+1)=((i+1:Nat):Int):=by rw[jE oM oM];rfl
theorem ep(xs:List Int)(h:xs.length<9223372036854775808):Pt (xs.flatMap e8) (λl=>f176 l xs):=by unfold f176;obtain⟨F,hF⟩:∃F:Nat,F=9223372036854775808:=⟨_,rfl⟩;rw[<-hF];refine(dP (F:=f176_l1 xs) (enc:=e8) h Pt.some (λn lw=>by rw[f176_l1,gtn,cdF]) (λn i hi w hw l hl=>?_) hF).eq (List.append_nil _);rw[f176_l1,glt hi,cdT,d9 hi,bnS,gw1 hi h];exact((jr _).bind hw) l hl
theorem P177(b:Bool):Pt (gK.enc b) (λl=>f177 l b):=by cases b;exact((jr 0).bind Pt.some).eq (List.append_nil _);exact((jr 1).bind Pt.some).eq (List.append_nil _)
theorem wv(xs:List Int)(h:xs.length<9223372036854775808):Pt ((liC bu).enc xs) (λl=>f178 l xs):=by refine((ep [(xs.length:Int)] sM).bind ((ep xs h).bind Pt.some)).eq ?_;simp only[List.flatMap_cons,List.flatMap_nil,List.append_nil];rfl
theorem wop{v:Int}(h:0<=v/\v<=255):i64.wrap v=v:=jE oM oM
theorem P179{F:Nat}(hF:F=9223372036854775808):∀(n:Nat)(e:ah),(exC n).ok e->Pt ((exC n).enc e) (λl=>f179 n l e)
 |0,e,h=>h.elim
 |n+1,e,h=>by
  obtain⟨⟨h1,h2,h3⟩,h4,h5⟩:=h;intro l hl;show f179s (f179 n) l e=_;have hL:Pt (e.l.flatMap (exC n).enc++ []) (f179s_l1 (f179 n) l e F 0):=dP h4 Pt.some (λn' lw=>by rw[f179s_l1,gtn,cdF]) (λn' i hi w hw l hl=>by
   rw[f179s_l1,glt hi,cdT,d9 hi,bnS,gw1 hi h4];exact((P179 hF n _ (h5 _ (List.getElem_mem hi))).bind hw) l hl) hF
  have C:=(ep [e.kind,e.op] sM).bind ((jr e.n).bind ((ep [e.o,e.off,e.len] sM).bind ((jr e.lo).bind ((jr e.hi).bind ((ep [(List.length e.l:Int)] sM).bind hL)))));have hE:[e.kind,e.op].flatMap e8++(e8 e.n++([e.o,e.off,e.len].flatMap e8++(e8 e.lo++(e8 e.hi++([(List.length e.l:Int)].flatMap e8++(e.l.flatMap (exC n).enc++ []))))))=(exC (n+1)).enc e:=by simp only[List.flatMap_cons,List.flatMap_nil,List.append_nil,List.append_assoc];simp only[exC,Cod.two,pr,liC,Cod.list,dO,bu,List.append_assoc]
  rw[hE] at C;unfold f179s;rw[wop h1,wop h2,<-hF];exact C l hl
section
variable{t:ao}{F:Nat}(hF:F=9223372036854775808)
include hF
theorem q1(h:t.insns.length<9223372036854775808/\∀x∈t.insns,l9.ok x){wK:Bs}{K:Bs->Option Bs}(hK:Pt wK K):Pt (t.insns.flatMap l9.enc++wK) (f144_l1 t K F 0):=
 dP h.1 hK (λn lw=>by rw[f144_l1,gtn,cdF]) (λn i hi w hw l hl=>by
  have ho:=h.2 _ (List.getElem_mem hi);rw[f144_l1,glt hi,cdT,d9 hi,bnS,gw1 hi h.1,wop ho.1];refine Pt.eq ((ep [t.insns[i].op,t.insns[i].d,t.insns[i].a,t.insns[i].b] sM).bind ((jr _).bind ((jr _).bind ((ep [t.insns[i].to] sM).bind hw)))) ?_ l hl;simp only[List.flatMap_cons,List.flatMap_nil,List.append_nil,List.append_assoc];simp only[l9,Cod.two,pr,dO,bu,List.append_assoc]) hF
theorem q2(h:t.handlers.length<9223372036854775808){wK:Bs}{K:Bs->Option Bs}(hK:Pt wK K):Pt (t.handlers.flatMap np.enc++wK) (f144_l2 t K F 0):=
 dP h hK (λn lw=>by rw[f144_l2,gtn,cdF]) (λn i hi w hw l hl=>by
  rw[f144_l2,glt hi,cdT,d9 hi,bnS,bnS,bnS,gw1 hi h];refine Pt.eq ((ep [t.handlers[i].from_,t.handlers[i].to,t.handlers[i].at_] sM).bind ((P177 _).bind hw)) ?_ l hl;simp only[List.flatMap_cons,List.flatMap_nil,List.append_nil,List.append_assoc];simp only[np,Cod.two,pr,bu,List.append_assoc]) hF
theorem q3(h:t.loops.length<9223372036854775808){wK:Bs}{K:Bs->Option Bs}(hK:Pt wK K):Pt (t.loops.flatMap nf.enc++wK) (f144_l3 t K F 0):=
 dP h hK (λn lw=>by rw[f144_l3,gtn,cdF]) (λn i hi w hw l hl=>by
  rw[f144_l3,glt hi,cdT,d9 hi,bnS,bnS,gw1 hi h];refine Pt.eq ((ep [t.loops[i].head,t.loops[i].back] sM).bind ((jr _).bind hw)) ?_ l hl;simp only[List.flatMap_cons,List.flatMap_nil,List.append_nil,List.append_assoc];simp only[nf,Cod.two,pr,bu,List.append_assoc]) hF
theorem q5{x:aC}(h:x.alts.length<9223372036854775808/\∀a∈x.alts,nE.ok a){wK:Bs}{K:Bs->Option Bs}(hK:Pt wK K):Pt (x.alts.flatMap nE.enc++wK) (f144_l5 x K F 0):=
 dP h.1 hK (λn lw=>by rw[f144_l5,gtn,cdF]) (λn i hi w hw l hl=>by
  have ho:=h.2 _ (List.getElem_mem hi);rw[f144_l5,glt hi,cdT,d9 hi,bnS,gw1 hi h.1,wop ho.1];refine Pt.eq ((ep [x.alts[i].kind,x.alts[i].entry,x.alts[i].guard,x.alts[i].time,x.alts[i].at_] sM).bind hw) ?_ l hl;simp only[List.flatMap_cons,List.flatMap_nil,List.append_nil,List.append_assoc];simp only[nE,Cod.two,pr,dO,bu,List.append_assoc]) hF
theorem q4(h:t.selects.length<9223372036854775808/\∀x∈t.selects,lX.ok x){wK:Bs}{K:Bs->Option Bs}(hK:Pt wK K):Pt (t.selects.flatMap lX.enc++wK) (f144_l4 t K F 0):=
 dP h.1 hK (λn lw=>by rw[f144_l4,gtn,cdF]) (λn i hi w hw l hl=>by
  have ho:=h.2 _ (List.getElem_mem hi);rw[f144_l4,glt hi,cdT,cq,d9 hi,bnS,gw1 hi h.1,<-hF];refine Pt.eq ((ep [(List.length t.selects[i].alts:Int)] sM).bind (q5 hF ho.1 ((ep [t.selects[i].obj,t.selects[i].else_] sM).bind hw))) ?_ l hl;simp only[List.flatMap_cons,List.flatMap_nil,List.append_nil,List.append_assoc];simp only[lX,Cod.two,Cod.list,pr,liC,bu,List.append_assoc]) hF
theorem q6(h:t.lists.length<9223372036854775808/\∀x∈t.lists,(liC bu).ok x):Pt (t.lists.flatMap (liC bu).enc) (f144_l6 t F 0):=
 (dP h.1 Pt.some (λn lw=>by rw[f144_l6,gtn,cdF]) (λn i hi w hw l hl=>by
  have ho:=h.2 _ (List.getElem_mem hi);rw[f144_l6,glt hi,cdT,d9 hi,bnS,gw1 hi h.1];exact((wv _ ho.1).bind hw) l hl) hF).eq (List.append_nil _)
theorem p7(h:t.checks.length<9223372036854775808/\∀x∈t.checks,md.ok x):Pt (t.checks.flatMap md.enc) (f145_l7 t F 0):=
 (dP h.1 Pt.some (λn lw=>by rw[f145_l7,gtn,cdF]) (λn i hi w hw l hl=>by
  have ho:=h.2 _ (List.getElem_mem hi);rw[f145_l7,glt hi,cdT,d9 hi,bnS,bnS,gw1 hi h.1,wop ho.2];refine Pt.eq ((ep [t.checks[i].at_,t.checks[i].kind] sM).bind hw) ?_ l hl;simp only[List.flatMap_cons,List.flatMap_nil,List.append_nil,List.append_assoc];simp only[md,Cod.two,pr,dO,bu,List.append_assoc]) hF).eq (List.append_nil _)
theorem p6{u:Nat}(hu:u<t.prots.length)(h:t.prots[u].barriers.length<9223372036854775808/\∀e∈t.prots[u].barriers,(exC F).ok e){wK:Bs}{K:Bs->Option Bs}(hK:Pt wK K):Pt (t.prots[u].barriers.flatMap (exC F).enc++wK) (f145_l6 t (u:Int) K F 0):=
 dP h.1 hK (λn lw=>by rw[f145_l6,d9 hu,bnS,gtn,cdF]) (λn i hi w hw l hl=>by
  rw[f145_l6,<-hF,d9 hu,bnS,glt hi,cdT,bnS,d9 hi,bnS,gw1 hi h.1];exact((P179 hF F _ (h.2 _ (List.getElem_mem hi))).bind hw) l hl) hF
theorem p5(h:t.prots.length<9223372036854775808/\∀x∈t.prots,(l6 F).ok x){wK:Bs}{K:Bs->Option Bs}(hK:Pt wK K):Pt (t.prots.flatMap (l6 F).enc++wK) (f145_l5 t K F 0):=
 dP h.1 hK (λn lw=>by rw[f145_l5,gtn,cdF]) (λn i hi w hw l hl=>by
  have ho:=h.2 _ (List.getElem_mem hi);rw[f145_l5,glt hi,cdT,cq,d9 hi,bnS,bnS,gw1 hi h.1,<-hF];refine Pt.eq ((ep [t.prots[i].ceiling,(List.length t.prots[i].barriers:Int)] sM).bind (p6 hF hi ho.2 hw)) ?_ l hl;simp only[List.flatMap_cons,List.flatMap_nil,List.append_nil,List.append_assoc];simp only[l6,Cod.two,Cod.list,pr,liC,bu,List.append_assoc]) hF
theorem p4{x:aJ}(h:x.entries.length<9223372036854775808/\∀e∈x.entries,nA.ok e){wK:Bs}{K:Bs->Option Bs}(hK:Pt wK K):Pt (x.entries.flatMap nA.enc++wK) (f145_l4 x K F 0):=
 dP h.1 hK (λn lw=>by rw[f145_l4,gtn,cdF]) (λn i hi w hw l hl=>by
  have ho:=h.2 _ (List.getElem_mem hi);rw[f145_l4,glt hi,cdT,d9 hi,bnS,gw1 hi h.1];simp only[bnS];refine Pt.eq ((wv x.entries[i].ins ho.1.1).bind ((wv x.entries[i].outs ho.2.1).bind hw)) ?_ l hl;simp only[nA,Cod.two,List.append_assoc]) hF
theorem p3(h:t.tasks.length<9223372036854775808/\∀x∈t.tasks,lQ.ok x){wK:Bs}{K:Bs->Option Bs}(hK:Pt wK K):Pt (t.tasks.flatMap lQ.enc++wK) (f145_l3 t K F 0):=
 dP h.1 hK (λn lw=>by rw[f145_l3,gtn,cdF]) (λn i hi w hw l hl=>by
  have ho:=h.2 _ (List.getElem_mem hi);rw[f145_l3,glt hi,cdT,cq,d9 hi,bnS,gw1 hi h.1,<-hF];refine Pt.eq ((ep [t.tasks[i].prio,t.tasks[i].at_,(List.length t.tasks[i].entries:Int)] sM).bind (p4 hF ho.2.2.1 ((jr t.tasks[i].deadline).bind hw))) ?_ l hl;simp only[List.flatMap_cons,List.flatMap_nil,List.append_nil,List.append_assoc];simp only[lQ,Cod.two,Cod.list,pr,liC,bu,List.append_assoc]) hF
theorem p2(h:t.inits.length<9223372036854775808){wK:Bs}{K:Bs->Option Bs}(hK:Pt wK K):Pt (t.inits.flatMap nj.enc++wK) (f145_l2 t K F 0):=
 dP h hK (λn lw=>by rw[f145_l2,gtn,cdF]) (λn i hi w hw l hl=>by
  rw[f145_l2,glt hi,cdT,d9 hi,bnS,bnS,gw1 hi h];refine Pt.eq ((ep [t.inits[i].o,t.inits[i].slot] sM).bind ((jr _).bind hw)) ?_ l hl;simp only[List.flatMap_cons,List.flatMap_nil,List.append_nil,List.append_assoc];simp only[nj,Cod.two,pr,bu,List.append_assoc]) hF
theorem p1(h:t.objs.length<9223372036854775808/\∀x∈t.objs,l8.ok x){wK:Bs}{K:Bs->Option Bs}(hK:Pt wK K):Pt (t.objs.flatMap l8.enc++wK) (f145_l1 t K F 0):=
 dP h.1 hK (λn lw=>by rw[f145_l1,gtn,cdF]) (λn i hi w hw l hl=>by
  have ho:=h.2 _ (List.getElem_mem hi);rw[f145_l1,glt hi,cdT,d9 hi,bnS,gw1 hi h.1];refine Pt.eq ((ep [t.objs[i].size] sM).bind ((jr _).bind ((jr _).bind ((P177 _).bind ((wv _ ho.2.2.2.2.1).bind hw))))) ?_ l hl;simp only[List.flatMap_cons,List.flatMap_nil,List.append_nil,List.append_assoc];simp only[l8,Cod.two,Cod.list,pr,liC,bu,List.append_assoc]) hF
end
theorem f58_eq{F:Nat}(hF:F=9223372036854775808){t:ao}(h:(cC F).ok t)(hl:((cC F).enc t).length<=900000000):f58 t=some (e8 958023++(cC F).enc t):=by
 obtain⟨⟨h1,h2,h3,h4,h5⟩,h6,h7,h8,h9,h10,h11⟩:=h;have A:Pt _ (λl=>f144 l t):=λl hl=>by
  unfold f144;rw[<-hF];exact((ep [(List.length t.insns:Int)] sM).bind (q1 hF h1 ((ep [(List.length t.handlers:Int)] sM).bind (q2 hF h2.1 ((ep [(List.length t.loops:Int)] sM).bind (q3 hF h3.1 ((ep [(List.length t.selects:Int)] sM).bind (q4 hF h4 ((ep [(List.length t.lists:Int)] sM).bind (q6 hF h5)))))))))) l hl
 have B:Pt _ (λl=>f145 l t):=λl hl=>by
  unfold f145;rw[<-hF];exact((ep [(List.length t.objs:Int)] sM).bind (p1 hF h6 ((ep [(List.length t.inits:Int)] sM).bind (p2 hF h7.1 ((ep [t.excs,(List.length t.tasks:Int)] sM).bind (p3 hF h9 ((ep [(List.length t.prots:Int)] sM).bind (p5 hF h10 ((ep [(List.length t.checks:Int)] sM).bind (p7 hF h11)))))))))) l hl
 have C:=(jr 958023).bind (A.bind (B.bind Pt.some));have hE:=λw (hw:w=e8 958023++(cC F).enc t)=>(show w=e8 958023++(cC F).enc t from hw);have D:=C.eq (hE _ (by
  simp only[List.flatMap_cons,List.flatMap_nil,List.append_nil,List.append_assoc];simp only[cC,mB,ml,Cod.two,Cod.list,pr,liC,bu,List.append_assoc]))
 exact D [] (by rw[List.length_append,fH,List.length_nil];omega)
theorem w64{x:Int}(h1: -9223372036854775808<=x)(h2:x<=9223372036854775807):i64.wrap x=x:=by rw[IntKind.wrap_i64];omega
theorem aR{α β:Sort _}(k:α)(f:α->β):aq k f=f k:=rfl
theorem bj{α:Type}{L:List α}{i:Nat}(h:i<L.length):idx L (i:Int)=some L[i]:=by unfold idx;rw[dcT (Int.natCast_nonneg i)];simp[h]
theorem da{α:Type}{L:List α}{i:Int}(h:¬(0<=i/\i<L.length)):idx L i=none:=by grind [idx]
theorem oL{α:Type}{L:List α}{i:Int}{x:α}(h:idx L i=some x):0<=i/\i<L.length:=⟨aw h,nm h⟩
theorem bJ{α:Type}{L:List α}{i:Int}(h:0<=i/\i<L.length):∃x,idx L i=some x/\x∈L:=by obtain⟨n,rfl⟩:=Int.eq_ofNat_of_zero_le h.1;exact⟨_,bj (show n<L.length by omega),List.getElem_mem _⟩
theorem nl{α:Type}{L:List α}{i:Int}{x:α}(h:idx L i=some x):x∈L:=List.mem_of_getElem? (fx h)
theorem bg{α:Type}{L:List α}{i:Nat}(h:i<L.length):L.drop i=L[i]::L.drop (i+1):=List.drop_eq_getElem_cons h
theorem oN{α:Type}{c:Bool}(o:Option α)(h:c=true):aN c o=o:=by rw[h];rfl
theorem rU{κ α:Type}[DecidableEq κ](m:List (κ×α))(k:κ)(v:α)(x:κ):dG (co m k v) x=if k=x then some v else dG m x:=by
 induction m with
 |nil=>simp[co,dG]
 |cons p r ih=>grind [co,dG]
def inM{κ:Type}[DecidableEq κ](m:List (κ×Bool))(x:κ):Bool:=Option.getD (dG m x) false
theorem nk{κ:Type}[DecidableEq κ](m:List (κ×Bool))(k x:κ):inM (co m k true) x=(decide (k=x)||inM m x):=by grind [inM,rU]
theorem f151_l1_eq(L:List az)(cb:az->Option Bool)(p:az->Bool)(hl:L.length<9223372036854775808):∀(n i:Nat)(z:Int),z=(i:Int)->i<=L.length->L.length<n+i->(∀x∈L.drop i,cb x=some (p x))->∃r,f151_l1 L cb (λ_=>some (-1)) n z=some r/\decide (r>=0)=(L.drop i).any p
 |0,i,z,_,_,h,_=>oM
 |n+1,i,z,hz,hi,h,hp=>by
  subst hz;rw[f151_l1];by_cases hh:i<L.length;rw[bg hh] at hp⊢;rw[dcT (by omega:(i:Int)<(L.length:Int)),cdT,bj hh,bnS,hp _ List.mem_cons_self,bnS,List.any_cons];cases hc:p L[i];rw[cdF,w64 oM oM,Bool.false_or];exact f151_l1_eq L cb p hl n (i+1) _ (by push_cast;rfl) oM oM (λx hx=>hp x (List.mem_cons_of_mem _ hx));grind;rw[dcF (by omega:¬(i:Int)<(L.length:Int)),cdF,List.drop_eq_nil_of_le oM];grind
theorem f151_eq(L:List az)(cb:az->Option Bool)(p:az->Bool)(hl:L.length<9223372036854775808)(hp:∀x∈L,cb x=some (p x)):∃r,f151 L cb=some r/\decide (r>=0)=L.any p:=by unfold f151;exact f151_l1_eq L cb p hl _ 0 0 rfl (Nat.zero_le _) oM hp
theorem f90_eq(L:List az)(cb:az->Option Bool)(p:az->Bool)(hl:L.length<9223372036854775808)(hp:∀x∈L,cb x=some (p x)):f90 L cb=some (L.any p):=by obtain⟨r,h1,h2⟩:=f151_eq L cb p hl hp;grind [f90]
theorem f163_l1_eq(L:List Int)(cb:Int->Option Bool)(p:Int->Bool)(hl:L.length<9223372036854775808):∀(n i:Nat)(z:Int),z=(i:Int)->i<=L.length->L.length<n+i->(∀x∈L.drop i,cb x=some (p x))->∃r,f163_l1 L cb (λ_=>some (-1)) n z=some r/\decide (r>=0)=(L.drop i).any p
 |0,i,z,_,_,h,_=>oM
 |n+1,i,z,hz,hi,h,hp=>by
  subst hz;rw[f163_l1];by_cases hh:i<L.length;rw[bg hh] at hp⊢;rw[dcT (by omega:(i:Int)<(L.length:Int)),cdT,bj hh,bnS,hp _ List.mem_cons_self,bnS,List.any_cons];cases hc:p L[i];rw[cdF,w64 oM oM,Bool.false_or];exact f163_l1_eq L cb p hl n (i+1) _ (by push_cast;rfl) oM oM (λx hx=>hp x (List.mem_cons_of_mem _ hx));grind;rw[dcF (by omega:¬(i:Int)<(L.length:Int)),cdF,List.drop_eq_nil_of_le oM];grind
theorem f163_eq(L:List Int)(cb:Int->Option Bool)(p:Int->Bool)(hl:L.length<9223372036854775808)(hp:∀x∈L,cb x=some (p x)):∃r,f163 L cb=some r/\decide (r>=0)=L.any p:=by unfold f163;exact f163_l1_eq L cb p hl _ 0 0 rfl (Nat.zero_le _) oM hp
theorem f112_eq(L:List Int)(cb:Int->Option Bool)(p:Int->Bool)(hl:L.length<9223372036854775808)(hp:∀x∈L,cb x=some (p x)):f112 L cb=some (L.any p):=by obtain⟨r,h1,h2⟩:=f163_eq L cb p hl hp;grind [f112]
theorem f98_l1_eq(L:List aB)(cb:aB->Option Bool)(p:aB->Bool)(hl:L.length<9223372036854775808):∀(n i:Nat)(z:Int),z=(i:Int)->i<=L.length->L.length<n+i->(∀x∈L.drop i,cb x=some (p x))->∃r,f98_l1 L cb (λ_=>some (-1)) n z=some r/\decide (r>=0)=(L.drop i).any p
 |0,i,z,_,_,h,_=>oM
 |n+1,i,z,hz,hi,h,hp=>by
  subst hz;rw[f98_l1];by_cases hh:i<L.length;rw[bg hh] at hp⊢;rw[dcT (by omega:(i:Int)<(L.length:Int)),cdT,bj hh,bnS,hp _ List.mem_cons_self,bnS,List.any_cons];cases hc:p L[i];rw[cdF,w64 oM oM,Bool.false_or];exact f98_l1_eq L cb p hl n (i+1) _ (by push_cast;rfl) oM oM (λx hx=>hp x (List.mem_cons_of_mem _ hx));grind;rw[dcF (by omega:¬(i:Int)<(L.length:Int)),cdF,List.drop_eq_nil_of_le oM];grind
theorem f98_eq(L:List aB)(cb:aB->Option Bool)(p:aB->Bool)(hl:L.length<9223372036854775808)(hp:∀x∈L,cb x=some (p x)):∃r,f98 L cb=some r/\decide (r>=0)=L.any p:=by unfold f98;exact f98_l1_eq L cb p hl _ 0 0 rfl (Nat.zero_le _) oM hp
theorem f35_eq(L:List aB)(cb:aB->Option Bool)(p:aB->Bool)(hl:L.length<9223372036854775808)(hp:∀x∈L,cb x=some (p x)):f35 L cb=some (L.any p):=by obtain⟨r,h1,h2⟩:=f98_eq L cb p hl hp;grind [f35]
def spot(os:List Obj)(o from_ bX:Int):Bool:=match idx os o with
 |some x=>decide (0<=from_)&&decide (from_<=i64.wrap (x.size - bX))
 |none=>false
theorem f89_eq(t:ao)(o f m:Int):f89 ⟨t⟩ o f m=some (spot t.objs o f m):=by unfold f89 spot;by_cases h:0<=o/\o<t.objs.length;obtain⟨x,hx,_⟩:=bJ h;grind;grind [da]
theorem kr{os:List Obj}{o f m:Int}(h:spot os o f m=true):∃x,idx os o=some x/\0<=f/\f<=i64.wrap (x.size - m):=by grind [spot,idx]
def fits(o:Obj)(v:Int):Bool:=bif o.ptr then decide (v=0)||o.set_.any (λn=>f113 n v) else decide (v>=o.lo)&&decide (v<=o.hi)
theorem f45_eq(o:Obj)(v:Int)(hl:o.set_.length<9223372036854775808):f45 o v=some (fits o v):=by grind [f45,fits,f112_eq,f113]
def aim(os:List Obj)(x:Int):Bool:=match idx os x with
 |some y=>decide (y.size=1)&& !y.ptr
 |none=>false
def j0(os:List Obj):Int->List Int->Bool
 |_,[]=>true
 |last,x::r=>decide (last<x)&&aim os x&&j0 os x r
def ff(os:List Obj)(o:Obj):Bool:=
 !((decide (o.size<1)||decide (o.size>16384))||decide (o.lo>o.hi))&&bif !o.ptr then decide ((o.set_.length:Int)=0) else j0 os (-1) o.set_&&(decide (o.lo=0)&&decide (o.hi=0))
theorem f88_l1_eq(t:ao)(o:Obj)(r:Option Bool)(hl:o.set_.length<9223372036854775808):∀(n i:Nat)(z last:Int),z=(i:Int)->i<=o.set_.length->o.set_.length<n+i->-1<=last->
  f88_l1 ⟨t⟩ o (λ_=>r) n last z=bif j0 t.objs last (o.set_.drop i) then r else some false
 |0,i,z,last,_,_,h,_=>oM
 |n+1,i,z,last,hz,hi,h,hla=>by
  subst hz;rw[f88_l1];by_cases hh:i<o.set_.length;rw[bg hh,j0];rw[dcT (by omega:(i:Int)<(o.set_.length:Int)),cdT,bj hh,bnS];generalize o.set_[i]=x;dsimp only;by_cases h1:last<x;rw[dcT h1,dcF (show¬x<=last by omega),Bool.false_or,Bool.true_and];unfold aim;by_cases h2:x<t.objs.length;obtain⟨y,hy,_⟩:=bJ (L:=t.objs) (i:=x) oM;rw[dcF (show¬x>=(t.objs.length:Int) by omega),cdF,hy];simp only[bnS];by_cases h3:y.size=1;rw[dcT h3];cases h4:y.ptr;rw[w64 oM oM];exact f88_l1_eq t o r hl n (i+1) _ x (by push_cast;rfl) oM oM oM;rfl;grind;grind [da];grind;rw[dcF (by omega:¬(i:Int)<(o.set_.length:Int)),cdF,List.drop_eq_nil_of_le oM];rfl
theorem f88_eq(t:ao)(o:Obj)(hl:o.set_.length<9223372036854775808):f88 ⟨t⟩ o=some (ff t.objs o):=by unfold f88 ff;cases h1:(decide (o.size<1)||decide (o.size>16384))||decide (o.lo>o.hi);rw[cdF,aR,Bool.not_false,Bool.true_and];cases h2:o.ptr;rfl;rw[Bool.not_true,cdF,cdF,f88_l1_eq t o _ hl _ 0 0 (-1) rfl (Nat.zero_le _) oM oM,List.drop_zero];grind;rfl
def pI(n:Int)(L:List Obj):Int:=L.foldl (λn x=>i64.wrap (n+x.size)) n
theorem f27_l1_eq(t:ao)(k:Int->Option Bool)(hl:t.objs.length<9223372036854775808)(hs:∀o∈t.objs,o.set_.length<9223372036854775808):∀(n i:Nat)(z a:Int),z=(i:Int)->i<=t.objs.length->t.objs.length<n+i->
  f27_l1 ⟨t⟩ k n a z=bif (t.objs.drop i).all (ff t.objs) then k (pI a (t.objs.drop i)) else some false
 |0,i,z,a,_,_,h=>oM
 |n+1,i,z,a,hz,hi,h=>by
  subst hz;rw[f27_l1];by_cases hh:i<t.objs.length;rw[bg hh,List.all_cons,dcT (by omega:(i:Int)<(t.objs.length:Int)),cdT,bj hh,bnS,f88_eq t _ (hs _ (List.getElem_mem _)),bnS,w64 (x:=(i:Int)+1) oM oM];cases hc:ff t.objs t.objs[i];rfl;rw[Bool.not_true,cdF,Bool.true_and,f27_l1_eq t k hl hs n (i+1) _ _ (by push_cast;rfl) oM oM];rfl;rw[dcF (by omega:¬(i:Int)<(t.objs.length:Int)),cdF,List.drop_eq_nil_of_le oM];rfl
def fg(os:List Obj)(x:bt):Bool:=spot os x.o x.slot 1&&(match idx os x.o with|some y=>fits y x.v|none=>false)
def eE(os:List Obj):List ((Int×Int)×Bool)->List bt->Bool
 |_,[]=>true
 |m,x::r=>(!(inM m (x.o,x.slot)))&&fg os x&&eE os (co m (x.o,x.slot) true) r
theorem f27_l2_eq(t:ao)(r:Option Bool)(hl:t.inits.length<9223372036854775808)(hs:∀o∈t.objs,o.set_.length<9223372036854775808):∀(n i:Nat)(z:Int)(m:List ((Int×Int)×Bool)),z=(i:Int)->i<=t.inits.length->t.inits.length<n+i->
  f27_l2 ⟨t⟩ (λ_=>r) n z m=bif eE t.objs m (t.inits.drop i) then r else some false
 |0,i,z,m,_,_,h=>oM
 |n+1,i,z,m,hz,hi,h=>by
  subst hz;rw[f27_l2];by_cases hh:i<t.inits.length;rw[bg hh,eE,dcT (by omega:(i:Int)<(t.inits.length:Int)),cdT,bj hh,bnS];generalize t.inits[i]=x;rw[f89_eq,w64 oM oM,f27_l2_eq t r hl hs n (i+1) _ _ (by push_cast;rfl) oM oM];show Option.bind (bif inM m (x.o,x.slot) then _ else _) _=_;cases hm:inM m (x.o,x.slot);unfold fg;cases hsp:spot t.objs x.o x.slot 1;rfl;obtain⟨y,hy,_⟩:=kr hsp;rw[hy];simp only[Bool.not_false,Bool.not_true,bnS,cdF,Bool.true_and];rw[f45_eq _ _ (hs _ (nl hy))];cases fits y x.v<;>rfl;rfl;rw[dcF (by omega:¬(i:Int)<(t.inits.length:Int)),cdF,List.drop_eq_nil_of_le oM];rfl
def j7(t:ao):Bool:= !((decide ((t.objs.length:Int)>4096)||decide (t.excs<4))||decide (t.excs>64))&&(t.objs.all (ff t.objs)&&(eE t.objs [] t.inits&&decide (pI 0 t.objs<=65536)))
theorem f27_eq(t:ao)(hl:t.inits.length<9223372036854775808)(hs:∀o∈t.objs,o.set_.length<9223372036854775808):f27 ⟨t⟩=some (j7 t):=by
 unfold f27 j7;dsimp only;cases h1:(decide ((t.objs.length:Int)>4096)||decide (t.excs<4))||decide (t.excs>64);have hol:(t.objs.length:Int)<=4096:=by simp_all
 rw[cdF,aR,f27_l1_eq t _ oM hs _ 0 0 0 rfl (Nat.zero_le _) oM,aR,f27_l2_eq t _ hl hs _ 0 0 [] rfl (Nat.zero_le _) oM];grind;rfl
def at1(t:ao)(a:Int):Bool:=decide (a>=0)&&decide (a<(t.insns.length:Int))
theorem f47_eq(t:ao)(a:Int):f47 ⟨t⟩ a=at1 t a:=rfl
theorem gX{t:ao}{a:Int}:at1 t a=true↔0<=a/\a<(t.insns.length:Int):=by unfold at1;simp only[Bool.and_eq_true,decide_eq_true_eq,ge_iff_le]
def pT(os:List Obj)(x:Int):Bool:=match idx os x with
 |some y=>decide (y.size=1)
 |none=>false
theorem f152_eq(t:ao)(x:Int):f152 x ⟨t⟩=some (!(pT t.objs x)):=by
 unfold f152 pT;dsimp only;by_cases h:0<=x/\x<t.objs.length;obtain⟨y,hy,_⟩:=bJ h;rw[hy,dcF (show¬x<0 by omega),dcF (show¬x>=(t.objs.length:Int) by omega)];rfl;rw[da h];have:(decide (x<0)||decide (x>=(t.objs.length:Int)))=true:=by rw[Bool.or_eq_true];simp only[decide_eq_true_eq];omega
 rw[this];rfl
def dZ(os:List Obj)(l:List Int):Bool:=decide ((l.length:Int)<=8)&&l.all (pT os)
theorem rk{α:Type}(p:α->Bool)(L:List α):(!(L.any λx=> !(p x)))=L.all p:=by
 induction L with
 |nil=>rfl
 |cons x L ih=>rw[List.any_cons,List.all_cons,<-ih,Bool.not_or,Bool.not_not]
theorem f92_eq(t:ao)(l:List Int):f92 ⟨t⟩ l=some (dZ t.objs l):=by unfold f92 dZ;by_cases h:(l.length:Int)<=8;rw[dcT h,cdT,f112_eq l _ (λx=> !(pT t.objs x)) oM λx _=>f152_eq t x,bnS,rk];rfl;rw[dcF h];rfl
def eF(os:List Obj)(e:az):Bool:=dZ os e.ins&&dZ os e.outs
theorem f91_eq(t:ao)(e:az):f91 e ⟨t⟩=some (!(eF t.objs e)):=by unfold f91 eF;rw[f92_eq,f92_eq];cases dZ t.objs e.ins<;>cases dZ t.objs e.outs<;>rfl
def fW(t:ao)(x:aJ):Bool:= !(((((decide (x.prio<0)||decide (x.prio>31))||(!(at1 t x.at_)))||decide (x.deadline<0))||decide (x.deadline>2147483647))||decide ((x.entries.length:Int)>8))&&x.entries.all (eF t.objs)
theorem f28_l1_eq(t:ao)(r:Option Bool)(hl:t.tasks.length<9223372036854775808):∀(n i:Nat)(z:Int),z=(i:Int)->i<=t.tasks.length->t.tasks.length<n+i->
  f28_l1 ⟨t⟩ (λ_=>r) n z=bif (t.tasks.drop i).all (fW t) then r else some false
 |0,i,z,_,_,h=>oM
 |n+1,i,z,hz,hi,h=>by
  subst hz;rw[f28_l1];dsimp only;by_cases hh:i<t.tasks.length;rw[bg hh,List.all_cons,dcT (by omega:(i:Int)<(t.tasks.length:Int)),cdT,bj hh,bnS,f47_eq];unfold fW;generalize t.tasks[i]=x;cases hc:((((decide (x.prio<0)||decide (x.prio>31))||(!(at1 t x.at_)))||decide (x.deadline<0))||decide (x.deadline>2147483647))||decide ((x.entries.length:Int)>8);have he:(x.entries.length:Int)<=8:=by simp only[Bool.or_eq_false_iff,decide_eq_false_iff_not] at hc;omega
  rw[cdF,f90_eq x.entries _ (λe=> !(eF t.objs e)) oM λe _=>f91_eq t e,bnS,<-rk (eF t.objs),w64 oM oM,f28_l1_eq t r hl n (i+1) _ (by push_cast;rfl) oM oM];cases x.entries.any λe=> !(eF t.objs e)<;>rfl;rfl;rw[dcF (by omega:¬(i:Int)<(t.tasks.length:Int)),cdF,List.drop_eq_nil_of_le oM];rfl
def ef(t:ao):Bool:= !(decide ((t.tasks.length:Int)<1)||decide ((t.tasks.length:Int)>32))&&t.tasks.all (fW t)
theorem f28_eq(t:ao):f28 ⟨t⟩=some (ef t):=by
 unfold f28 ef;dsimp only;cases h1:decide ((t.tasks.length:Int)<1)||decide ((t.tasks.length:Int)>32);have hol:(t.tasks.length:Int)<=32:=by simp only[Bool.or_eq_false_iff,decide_eq_false_iff_not] at h1;omega
 rw[cdF,aR,f28_l1_eq t _ oM _ 0 0 rfl (Nat.zero_le _) oM,List.drop_zero];cases t.tasks.all (fW t)<;>rfl;rfl
def gb(n:Int):List (Int×Bool)->List Int->Bool
 |_,[]=>true
 |m,x::r=>(!((decide (x<1)||decide (x>=n))||inM m x))&&gb n (co m x true) r
theorem f29_l2_eq(t:ao)(l:List Int)(r:Option Bool)(hl:l.length<9223372036854775808):∀(n i:Nat)(z:Int)(m:List (Int×Bool)),z=(i:Int)->i<=l.length->l.length<n+i->
  f29_l2 ⟨t⟩ l (λ_=>r) n z m=bif gb t.tasks.length m (l.drop i) then r else some false
 |0,i,z,m,_,_,h=>oM
 |n+1,i,z,m,hz,hi,h=>by
  subst hz;rw[f29_l2];dsimp only;by_cases hh:i<l.length;rw[bg hh,gb,dcT (by omega:(i:Int)<(l.length:Int)),cdT,bj hh,bnS,w64 oM oM,f29_l2_eq t l r hl n (i+1) _ _ (by push_cast;rfl) oM oM];show(bif (_||inM m l[i]) then _ else _)=_;cases (decide (l[i]<1)||decide (l[i]>=(t.tasks.length:Int)))||inM m l[i]<;>rfl;rw[dcF (by omega:¬(i:Int)<(l.length:Int)),cdF,List.drop_eq_nil_of_le oM];rfl
def kW(t:ao)(l:List Int):Bool:=gb t.tasks.length [] l&& !(decide ((l.length:Int)>32))
theorem f29_l1_eq(t:ao)(r:Option Bool)(hl:t.lists.length<9223372036854775808)(hs:∀l∈t.lists,l.length<9223372036854775808):∀(n i:Nat)(z:Int),z=(i:Int)->i<=t.lists.length->t.lists.length<n+i->
  f29_l1 ⟨t⟩ (λ_=>r) n z=bif (t.lists.drop i).all (kW t) then r else some false
 |0,i,z,_,_,h=>oM
 |n+1,i,z,hz,hi,h=>by
  subst hz;rw[f29_l1];dsimp only;by_cases hh:i<t.lists.length;rw[bg hh,List.all_cons,dcT (by omega:(i:Int)<(t.lists.length:Int)),cdT,aR,bj hh,bnS,aR];have hx:=hs _ (List.getElem_mem hh);generalize t.lists[i]=x at hx;unfold kW;rw[f29_l2_eq t x _ hx _ 0 0 [] rfl (Nat.zero_le _) oM,w64 oM oM,f29_l1_eq t r hl hs n (i+1) _ (by push_cast;rfl) oM oM,List.drop_zero];cases gb t.tasks.length [] x<;>cases decide ((x.length:Int)>32)<;>rfl;rw[dcF (by omega:¬(i:Int)<(t.lists.length:Int)),cdF,List.drop_eq_nil_of_le oM];rfl
def iy(t:ao):Bool:= !(decide ((t.lists.length:Int)>4096))&&t.lists.all (kW t)
theorem f29_eq(t:ao)(hs:∀l∈t.lists,l.length<9223372036854775808):f29 ⟨t⟩=some (iy t):=by
 unfold f29 iy;dsimp only;cases h1:decide ((t.lists.length:Int)>4096);have hol:(t.lists.length:Int)<=4096:=by simp only[decide_eq_false_iff_not] at h1;omega
 rw[cdF,aR,f29_l1_eq t _ oM hs _ 0 0 rfl (Nat.zero_le _) oM,List.drop_zero];cases t.lists.all (kW t)<;>rfl;rfl
def gp(t:ao)(obj:Int)(a:aX):Bool:=
 at1 t a.at_&&(decide (a.guard= -1)||spot t.objs obj a.guard 1)&&
 bif decide (a.kind=1) then(decide (a.entry>=0)&&decide (a.entry<8))&&decide (a.time=0)
 else bif decide (a.kind=2)||decide (a.kind=3) then decide (a.entry=0)&&spot t.objs obj a.time 1
 else decide (a.kind=4)&&decide ((i64.wrap (BitVec.ofInt i64.bits a.entry|||BitVec.ofInt i64.bits a.time).toNat)=0)
theorem f157_eq(t:ao)(n o:Int):f157 n ⟨t⟩ o=some (spot t.objs o n 1):=by unfold f157;rw[f89_eq];rfl
theorem f96_eq(t:ao)(o:Int)(a:aX):f96 ⟨t⟩ o a=some (gp t o a):=by unfold f96 gp;rw[f47_eq,f157_eq,f157_eq];simp only[aR,bnS];cases at1 t a.at_;rfl;cases decide (a.guard= -1);cases spot t.objs o a.guard 1;rfl;cases decide (a.kind=1);cases decide (a.kind=2)<;>cases decide (a.kind=3)<;>cases decide (a.entry=0)<;>rfl;rfl;cases decide (a.kind=1);cases decide (a.kind=2)<;>cases decide (a.kind=3)<;>cases decide (a.entry=0)<;>rfl;rfl
theorem f31_l2_eq(t:ao)(x:aC)(k:Int->Option Bool)(a b:Option Bool)(ha:∀i:Int,0<=i->k i=a)(hl:x.alts.length<9223372036854775808):∀(n i:Nat)(z:Int),z=(i:Int)->i<=x.alts.length->x.alts.length<n+i->
  f31_l2 ⟨t⟩ x k (λ_=>b) n z=bif (x.alts.drop i).all (gp t x.obj) then b else a
 |0,i,z,_,_,h=>oM
 |n+1,i,z,hz,hi,h=>by
  subst hz;rw[f31_l2];by_cases hh:i<x.alts.length;rw[bg hh,List.all_cons,dcT (by omega:(i:Int)<(x.alts.length:Int)),cdT,bj hh,bnS,aR,f96_eq,bnS];cases gp t x.obj x.alts[i];exact ha _ oM;dsimp only;rw[Bool.not_true,cdF,w64 oM oM,f31_l2_eq t x k a b ha hl n (i+1) _ (by push_cast;rfl) oM oM,Bool.true_and];rw[dcF (by omega:¬(i:Int)<(x.alts.length:Int)),cdF,List.drop_eq_nil_of_le oM];rfl
def kN(t:ao)(x:aC):Bool:= !((((decide ((x.alts.length:Int)<1)||decide ((x.alts.length:Int)>16))||decide (x.obj<0))||decide (x.obj>=(t.objs.length:Int)))||((!decide (x.else_= -1))&&(!(at1 t x.else_))))&&x.alts.all (gp t x.obj)
theorem f31_l1_eq(t:ao)(r:Option Bool)(hl:t.selects.length<9223372036854775808):∀(n i:Nat)(z:Int),z=(i:Int)->i<=t.selects.length->t.selects.length<n+i->
  f31_l1 ⟨t⟩ (λ_=>r) n z=bif (t.selects.drop i).all (kN t) then r else some false
 |0,i,z,_,_,h=>oM
 |n+1,i,z,hz,hi,h=>by
  subst hz;rw[f31_l1];dsimp only;by_cases hh:i<t.selects.length;rw[bg hh,List.all_cons,dcT (by omega:(i:Int)<(t.selects.length:Int)),cdT,bj hh,bnS,f47_eq];generalize t.selects[i]=x;unfold kN;cases hc:(((decide ((x.alts.length:Int)<1)||decide ((x.alts.length:Int)>16))||decide (x.obj<0))||decide (x.obj>=(t.objs.length:Int)))||((!decide (x.else_= -1))&&(!(at1 t x.else_)));have he:(x.alts.length:Int)<=16:=by simp only[Bool.or_eq_false_iff,decide_eq_false_iff_not] at hc;omega
  simp only[aR];rw[cdF,f31_l2_eq t x _ (some false) _ (λi h=>by rw[dcT (show i>=0 from h)];rfl) oM _ 0 0 rfl (Nat.zero_le _) oM,List.drop_zero,w64 oM oM,f31_l1_eq t r hl n (i+1) _ (by push_cast;rfl) oM oM];cases x.alts.all (gp t x.obj)<;>rfl;rfl;rw[dcF (by omega:¬(i:Int)<(t.selects.length:Int)),cdF,List.drop_eq_nil_of_le oM];rfl
def mj(t:ao):Bool:= !(decide ((t.selects.length:Int)>1024))&&t.selects.all (kN t)
theorem f31_eq(t:ao):f31 ⟨t⟩=some (mj t):=by
 unfold f31 mj;dsimp only;cases h1:decide ((t.selects.length:Int)>1024);have hol:(t.selects.length:Int)<=1024:=by simp only[decide_eq_false_iff_not] at h1;omega
 rw[cdF,aR,f31_l1_eq t _ oM _ 0 0 rfl (Nat.zero_le _) oM,List.drop_zero];cases t.selects.all (kN t)<;>rfl;rfl
def iw(h g:am):Bool:= !((!(decide (g.from_>=h.from_)&&decide (g.to<=h.to)))&&decide ((if h.from_>g.from_ then h.from_ else g.from_)<(if h.to<g.to then h.to else g.to)))
theorem og{α:Type}(L:List α)(i:Nat):br L 0 (i:Int)=L.take i:=by simp[br]
theorem f32_l2_eq(t:ao)(j:Nat)(h0:am)(r:Option Bool)(hj:j<=t.handlers.length)(hl:t.handlers.length<9223372036854775808):∀(n i:Nat)(z:Int),z=(i:Int)->i<=j->j<n+i->
  f32_l2 ⟨t⟩ (j:Int) (λ_ _ _ _=>r) h0 n z=bif ((t.handlers.take j).drop i).all (iw h0) then r else some false
 |0,i,z,_,_,h=>oM
 |n+1,i,z,hz,hi,h=>by
  subst hz;have hL:(t.handlers.take j).length=j:=by rw[List.length_take];omega
  rw[f32_l2];dsimp only;rw[og];by_cases hh:i<(t.handlers.take j).length;rw[bg hh,List.all_cons,dcT (by omega:(i:Int)<((t.handlers.take j).length:Int)),cdT,bj hh,bnS,w64 oM oM,f32_l2_eq t j h0 r hj hl n (i+1) _ (by push_cast;rfl) oM oM];generalize(t.handlers.take j)[i]=g;unfold iw;cases (!(decide (g.from_>=h0.from_)&&decide (g.to<=h0.to)))&&decide ((if h0.from_>g.from_ then h0.from_ else g.from_)<(if h0.to<g.to then h0.to else g.to))<;>rfl;rw[dcF (by omega:¬(i:Int)<((t.handlers.take j).length:Int)),cdF,List.drop_eq_nil_of_le oM];rfl
def gd(t:ao)(x:am):Bool:=((((decide (x.from_<0))||(decide (x.from_>=x.to)))||(decide (x.to>(t.insns.length:Int))))||(!(at1 t x.at_)))||(f50 x x.at_)
def gc(t:ao):List am->List am->Bool
 |_,[]=>true
 |P,x::r=>(!(gd t x))&&P.all (iw x)&&gc t (P++ [x]) r
theorem f32_l1_eq(t:ao)(r:Option Bool)(hl:t.handlers.length<9223372036854775808):∀(n i:Nat)(z:Int),z=(i:Int)->i<=t.handlers.length->t.handlers.length<n+i->
  f32_l1 ⟨t⟩ (λ_=>r) n z=bif gc t (t.handlers.take i) (t.handlers.drop i) then r else some false
 |0,i,z,_,_,h=>oM
 |n+1,i,z,hz,hi,h=>by
  subst hz;rw[f32_l1];dsimp only;by_cases hh:i<t.handlers.length;have hL:(t.handlers.take i).length=i:=by rw[List.length_take];omega
  rw[bg hh,gc,<-List.take_succ_eq_append_getElem hh,dcT (by omega:(i:Int)<(t.handlers.length:Int)),cdT,aR,bj hh,bnS,f47_eq,oN _ (by simp[ce];omega),og,w64 oM oM,f32_l2_eq t i _ _ oM hl _ 0 0 rfl (Nat.zero_le _) oM,f32_l1_eq t r hl n (i+1) _ (by push_cast;rfl) oM oM,List.drop_zero];generalize t.handlers[i]=x;show(bif gd t x then _ else _)=_;cases gd t x<;>cases (t.handlers.take i).all (iw x)<;>rfl;rw[dcF (by omega:¬(i:Int)<(t.handlers.length:Int)),cdF,List.drop_eq_nil_of_le oM];rfl
def kZ(t:ao):Bool:= !(decide ((t.handlers.length:Int)>4096))&&gc t [] t.handlers
theorem f32_eq(t:ao):f32 ⟨t⟩=some (kZ t):=by
 unfold f32 kZ;dsimp only;cases h1:decide ((t.handlers.length:Int)>4096);have hol:(t.handlers.length:Int)<=4096:=by simp only[decide_eq_false_iff_not] at h1;omega
 rw[cdF,aR,f32_l1_eq t _ oM _ 0 0 rfl (Nat.zero_le _) oM,List.drop_zero,List.take_zero];cases gc t [] t.handlers<;>rfl;rfl
def tG(t:ao)(x:Loop):Bool:=(!((decide (x.head<0)||decide (x.head>x.back))||(!(at1 t x.back))))&&(match idx t.insns x.back with|some y=>f97 y x.head|none=>false)&& !(decide (x.bound<0)||decide (x.bound>2147483647))
def iZ(t:ao):List (Int×Bool)->List Loop->Bool
 |_,[]=>true
 |m,x::r=>(!(inM m x.back))&&tG t x&&iZ t (co m x.back true) r
theorem f33_l1_eq(t:ao)(r:Option Bool)(hl:t.loops.length<9223372036854775808):∀(n i:Nat)(z:Int)(m:List (Int×Bool)),z=(i:Int)->i<=t.loops.length->t.loops.length<n+i->
  f33_l1 ⟨t⟩ (λ_=>r) n z m=bif iZ t m (t.loops.drop i) then r else some false
 |0,i,z,m,_,_,h=>oM
 |n+1,i,z,m,hz,hi,h=>by
  subst hz;rw[f33_l1];dsimp only;by_cases hh:i<t.loops.length;rw[bg hh,iZ,dcT (by omega:(i:Int)<(t.loops.length:Int)),cdT,bj hh,bnS,f47_eq,w64 oM oM,f33_l1_eq t r hl n (i+1) _ _ (by push_cast;rfl) oM oM];generalize t.loops[i]=x;unfold tG;show Option.bind (bif (_||inM m x.back) then _ else _) _=_;cases h1:(decide (x.head<0)||decide (x.head>x.back))||(!(at1 t x.back));cases inM m x.back;have h2:at1 t x.back=true:=by cases h:at1 t x.back;rw[h] at h1;simp at h1;rfl
  obtain⟨y,hy,_⟩:=bJ (gX.1 h2);rw[hy];simp only[bnS,Bool.or_self,cdF,Bool.not_false,Bool.true_and,Bool.or_assoc];cases f97 y x.head<;>cases (decide (x.bound<0)||decide (x.bound>2147483647))<;>rfl;rfl;cases inM m x.back<;>rfl;rw[dcF (by omega:¬(i:Int)<(t.loops.length:Int)),cdF,List.drop_eq_nil_of_le oM];rfl
def pX(t:ao):Bool:= !(decide ((t.loops.length:Int)>4096))&&iZ t [] t.loops
theorem f33_eq(t:ao):f33 ⟨t⟩=some (pX t):=by
 unfold f33 pX;dsimp only;cases h1:decide ((t.loops.length:Int)>4096);have hol:(t.loops.length:Int)<=4096:=by simp only[decide_eq_false_iff_not] at h1;omega
 rw[cdF,aR,f33_l1_eq t _ oM _ 0 0 [] rfl (Nat.zero_le _) oM,List.drop_zero];cases iZ t [] t.loops<;>rfl;rfl
def chk(t:ao)(a:Int):Bool:=match idx t.insns a with
 |some x=>decide (x.op=27)||decide (x.op=28)
 |none=>false
theorem f61_eq(t:ao)(a:Int):f61 ⟨t⟩ a=some (chk t a):=by unfold f61 chk;rw[f47_eq];dsimp only;cases h:at1 t a;rw[da (λhh=>by rw[gX.2 hh] at h;cases h)];rfl;obtain⟨y,hy,_⟩:=bJ (gX.1 h);rw[hy];dsimp only[bnS,cdT];cases decide (y.op=27)<;>rfl
def jL(t:ao):Int->List bc->Bool
 |_,[]=>true
 |last,x::r=>((decide (last<x.at_)&&chk t x.at_)&& !(decide (x.kind<1)||decide (x.kind>5)))&&jL t x.at_ r
theorem f34_l1_eq(t:ao)(r:Option Bool)(hl:t.checks.length<9223372036854775808):∀(n i:Nat)(z last:Int),z=(i:Int)->i<=t.checks.length->t.checks.length<n+i->
  f34_l1 ⟨t⟩ (λ_=>r) n last z=bif jL t last (t.checks.drop i) then r else some false
 |0,i,z,last,_,_,h=>oM
 |n+1,i,z,last,hz,hi,h=>by
  subst hz;rw[f34_l1];dsimp only;by_cases hh:i<t.checks.length;rw[bg hh,jL,dcT (by omega:(i:Int)<(t.checks.length:Int)),cdT,bj hh,bnS,f61_eq,w64 oM oM,f34_l1_eq t r hl n (i+1) _ _ (by push_cast;rfl) oM oM];generalize t.checks[i]=x;by_cases h1:last<x.at_;rw[dcT h1,dcF (show¬x.at_<=last by omega)];cases chk t x.at_<;>cases decide (x.kind<1)<;>cases decide (x.kind>5)<;>rfl;rw[dcF h1,dcT (show x.at_<=last by omega)];rfl;rw[dcF (by omega:¬(i:Int)<(t.checks.length:Int)),cdF,List.drop_eq_nil_of_le oM];rfl
theorem f34_eq(t:ao)(hl:t.checks.length<9223372036854775808):f34 ⟨t⟩=some (jL t (-1) t.checks):=by unfold f34;dsimp only;rw[aR,f34_l1_eq t _ hl _ 0 0 (-1) rfl (Nat.zero_le _) oM,List.drop_zero];cases jL t (-1) t.checks<;>rfl
def ct(os:List Obj)(ent:Int)(e:ah):Bool×Int×Int×Int×Int×Int:=
 bif decide (e.kind=1) then(true,0,0,e.n,0,0) else
 bif decide (e.kind=2) then(bif spot os e.o e.off 1&&(match idx os e.o with|some y=> !y.ptr|none=>false) then(true,0,0,0,e.o,e.off) else(false,0,0,0,0,0)) else
 bif decide (e.kind=14) then(decide (e.n>=0)&&decide (e.n<ent),0,0,e.n,0,0) else
 bif decide (e.kind=4) then(true,1,18,0,0,0) else
 bif decide (e.kind=5) then(true,2,(if(if 15<e.op then 15 else e.op)>7 then(if 15<e.op then 15 else e.op) else 7),0,0,0) else
 bif decide (e.kind=6)||decide (e.kind=7) then(true,2,0,0,0,0) else(false,0,0,0,0,0)
def eI(os:List Obj)(ent:Int)(e:ah):Bool:=
 ((((((((!(ct os ent e).1)||(!decide ((List.length e.l:Int)=(ct os ent e).2.1)))||(!decide (e.op=(ct os ent e).2.2.1)))||(!decide (e.n=(ct os ent e).2.2.2.1)))||(!decide (e.o=(ct os ent e).2.2.2.2.1)))||(!decide (e.off=(ct os ent e).2.2.2.2.2)))||(!decide (e.len=0)))||(!decide (e.lo=0)))||(!decide (e.hi=0))
def exL(rec:Int->ah->Bool×Int):List ah->Int->Bool×Int
 |[],l=>(true,l)
 |e::r,l=>bif (rec l e).1 then exL rec r (rec l e).2 else(false,(rec l e).2)
def exF(os:List Obj)(ent:Int):Nat->Int->Int->ah->Bool×Int
 |0,_,left,_=>(false,left)
 |n+1,deep,left,e=>
  bif (decide (i64.wrap (left - 1)<0)||decide (deep>64))||eI os ent e then(false,i64.wrap (left - 1))
  else exL (exF os ent n (deep+1)) e.l (i64.wrap (left - 1))
theorem pF(os:List Obj)(ent:Int)(e:ah):(ct os ent e).2.1<=2:=by unfold ct;cases decide (e.kind=1)<;>cases decide (e.kind=2)<;>cases decide (e.kind=14)<;>cases decide (e.kind=4)<;>cases decide (e.kind=5)<;>cases (decide (e.kind=6)||decide (e.kind=7))<;>simp<;>cases (spot os e.o e.off 1&&(match idx os e.o with|some y=> !y.ptr|none=>false))<;>simp
abbrev Rt:Type:=Bool×(List aB)×(List am)×(List Loop)×(List aC)×(List (List Int))×(List Obj)×(List bt)×Int×(List aJ)×(List aV)×(List bc)×Int×Int
abbrev Re:Type:=(List aB)->(List am)->(List Loop)->(List aC)->(List (List Int))->(List Obj)->(List bt)->Int->(List aJ)->(List aV)->(List bc)->Int->Int->ah->Int->Option Rt
section
variable(v0:List aB)(v1:List am)(v2:List Loop)(v3:List aC)(v4:List (List Int))(v5:List Obj)(v6:List bt)(v7:Int)(v8:List aJ)(v9:List aV)(v10:List bc)(ent:Int)
def mY(z:Bool×Int):Option Rt:=some (z.1,v0,v1,v2,v3,v4,v5,v6,v7,v8,v9,v10,ent,z.2)
theorem f93s_l1_eq(rec:Re)(g:Int->ah->Bool×Int)(e:ah)(deep:Int)
  (hrec:∀l x,rec v0 v1 v2 v3 v4 v5 v6 v7 v8 v9 v10 ent l x (i64.wrap (deep+1))=mY v0 v1 v2 v3 v4 v5 v6 v7 v8 v9 v10 ent (g l x))
  (ka:Int->(List aB)->(List am)->(List Loop)->(List aC)->(List (List Int))->(List Obj)->(List bt)->Int->(List aJ)->(List aV)->(List bc)->Int->Int->Option Rt)
  (kb:(List aB)->(List am)->(List Loop)->(List aC)->(List (List Int))->(List Obj)->(List bt)->Int->(List aJ)->(List aV)->(List bc)->Int->Int->Option Rt)
  (ha:∀(i:Int) l,0<=i->ka i v0 v1 v2 v3 v4 v5 v6 v7 v8 v9 v10 ent l=mY v0 v1 v2 v3 v4 v5 v6 v7 v8 v9 v10 ent (false,l))
  (hb:∀l,kb v0 v1 v2 v3 v4 v5 v6 v7 v8 v9 v10 ent l=mY v0 v1 v2 v3 v4 v5 v6 v7 v8 v9 v10 ent (true,l))
  (hl:e.l.length<9223372036854775808):∀(n i:Nat)(z l:Int),z=(i:Int)->i<=e.l.length->e.l.length<n+i->
  f93s_l1 rec e deep ka kb n z v0 v1 v2 v3 v4 v5 v6 v7 v8 v9 v10 ent l=mY v0 v1 v2 v3 v4 v5 v6 v7 v8 v9 v10 ent (exL g (e.l.drop i) l)
 |0,i,z,l,_,_,h=>oM
 |n+1,i,z,l,hz,hi,h=>by
  subst hz;rw[f93s_l1];by_cases hh:i<e.l.length;rw[bg hh,exL,dcT (by omega:(i:Int)<(e.l.length:Int)),cdT,bj hh,bnS,aR,hrec];unfold mY;dsimp only[bnS];cases (g l e.l[i]).1;exact ha _ _ oM;rw[Bool.not_true,cdF,w64 oM oM];exact f93s_l1_eq rec g e deep hrec ka kb ha hb hl n (i+1) _ _ (by push_cast;rfl) oM oM;rw[dcF (by omega:¬(i:Int)<(e.l.length:Int)),cdF,List.drop_eq_nil_of_le oM];exact hb _
theorem f93s_eq(rec:Re)(g:Int->ah->Bool×Int)(e:ah)(deep left:Int)
  (hrec:deep<=64->∀l x,rec v0 v1 v2 v3 v4 v5 v6 v7 v8 v9 v10 ent l x (i64.wrap (deep+1))=mY v0 v1 v2 v3 v4 v5 v6 v7 v8 v9 v10 ent (g l x)):∀z,f93s rec v0 v1 v2 v3 v4 v5 v6 v7 v8 v9 v10 ent left e deep=z->
  z=mY v0 v1 v2 v3 v4 v5 v6 v7 v8 v9 v10 ent (bif (decide (i64.wrap (left - 1)<0)||decide (deep>64))||eI v5 ent e then(false,i64.wrap (left - 1)) else exL g e.l (i64.wrap (left - 1))):=by
 intro z h;obtain⟨K,hK,h⟩:=aE h;have h':K (ct v5 ent e).1 (ct v5 ent e).2.1 (ah.mk e.kind (ct v5 ent e).2.2.1 (ct v5 ent e).2.2.2.1 (ct v5 ent e).2.2.2.2.1 (ct v5 ent e).2.2.2.2.2 0 0 0 []) (ct v5 ent e).2.2.1 (ct v5 ent e).2.2.2.1 (ct v5 ent e).2.2.2.2.1 (ct v5 ent e).2.2.2.2.2=z:=by rw[<-h,aR];unfold ct;cases decide (e.kind=1);cases decide (e.kind=2);cases decide (e.kind=14);cases decide (e.kind=4);cases decide (e.kind=5);cases decide (e.kind=6)<;>cases decide (e.kind=7)<;>rfl;rfl;rfl;cases decide (e.n>=0)<;>rfl;grind [f89_eq,spot];rfl
 clear h;rw[hK] at h';dsimp only at h';have hc:=pF v5 ent e;have e1:(((((((((((decide (i64.wrap (left - 1)<0))||(decide (deep>64)))||(!(ct v5 ent e).1))||(!decide ((List.length e.l:Int)=(ct v5 ent e).2.1)))||(!decide (e.op=(ct v5 ent e).2.2.1)))||(!decide (e.n=(ct v5 ent e).2.2.2.1)))||(!decide (e.o=(ct v5 ent e).2.2.2.2.1)))||(!decide (e.off=(ct v5 ent e).2.2.2.2.2)))||(!decide (e.len=0)))||(!decide (e.lo=0)))||(!decide (e.hi=0)))=((decide (i64.wrap (left - 1)<0)||decide (deep>64))||eI v5 ent e):=by grind [eI]
 rw[e1] at h';cases hbad:(decide (i64.wrap (left - 1)<0)||decide (deep>64))||eI v5 ent e;rw[hbad,cdF] at h';have hd:deep<=64:=by simp_all
 have hlen:e.l.length<=2:=by grind
 simp only[aR] at h';rw[f93s_l1_eq v0 v1 v2 v3 v4 v5 v6 v7 v8 v9 v10 ent rec g e deep (hrec hd) _ _ (λi l h0=>by rw[dcT (show i>=0 from h0)];rfl) (λl=>rfl) oM _ 0 0 _ rfl (Nat.zero_le _) oM,List.drop_zero] at h';grind;rw[hbad,cdT] at h';rw[<-h',cdT];rfl
theorem f93_eq:∀(n:Nat)(deep left:Int)(e:ah),1<=deep->deep<=65->66<n+deep->f93 n v0 v1 v2 v3 v4 v5 v6 v7 v8 v9 v10 ent left e deep=mY v0 v1 v2 v3 v4 v5 v6 v7 v8 v9 v10 ent (exF v5 ent n deep left e)
 |0,deep,left,e,h0,h1,h2=>oM
 |n+1,deep,left,e,h0,h1,h2=>by
  exact f93s_eq v0 v1 v2 v3 v4 v5 v6 v7 v8 v9 v10 ent (f93 n) (exF v5 ent n (deep+1)) e deep left (λhd l x=>by
   rw[w64 oM oM];exact f93_eq n (deep+1) l x oM oM oM) _ rfl
end
def lk(t:ao)(ent:Int)(e:ah):Bool:=(exF t.objs ent 66 1 256 e).1
theorem f30_l2_eq(t:ao)(x:aV)(r:Option Bool)(hl:x.barriers.length<9223372036854775808):∀(n i:Nat)(z:Int),z=(i:Int)->i<=x.barriers.length->x.barriers.length<n+i->
  f30_l2 ⟨t⟩ (λ_ _=>r) x n z=bif (x.barriers.drop i).all (lk t x.barriers.length) then r else some false
 |0,i,z,_,_,h=>oM
 |n+1,i,z,hz,hi,h=>by
  subst hz;rw[f30_l2];by_cases hh:i<x.barriers.length;rw[bg hh,List.all_cons,dcT (by omega:(i:Int)<(x.barriers.length:Int)),cdT,bj hh,bnS,f93_eq _ _ _ _ _ _ _ _ _ _ _ _ 66 1 256 _ oM oM oM,w64 oM oM,f30_l2_eq t x r hl n (i+1) _ (by push_cast;rfl) oM oM];grind [mY,lk,exF];grind
def jA(t:ao)(x:aV):Bool:= !((decide (x.ceiling<0)||decide (x.ceiling>31))||decide ((x.barriers.length:Int)>8))&&x.barriers.all (lk t x.barriers.length)
theorem f30_l1_eq(t:ao)(r:Option Bool)(hl:t.prots.length<9223372036854775808):∀(n i:Nat)(z:Int),z=(i:Int)->i<=t.prots.length->t.prots.length<n+i->
  f30_l1 ⟨t⟩ (λ_=>r) n z=bif (t.prots.drop i).all (jA t) then r else some false
 |0,i,z,_,_,h=>oM
 |n+1,i,z,hz,hi,h=>by
  subst hz;rw[f30_l1];by_cases hh:i<t.prots.length;rw[bg hh,List.all_cons,dcT (by omega:(i:Int)<(t.prots.length:Int)),cdT,aR,bj hh,bnS];generalize t.prots[i]=x;unfold jA;cases hc:(decide (x.ceiling<0)||decide (x.ceiling>31))||decide ((x.barriers.length:Int)>8);have he:(x.barriers.length:Int)<=8:=by simp_all
  rw[cdF,f30_l2_eq t x _ oM _ 0 0 rfl (Nat.zero_le _) oM,w64 oM oM,f30_l1_eq t r hl n (i+1) _ (by push_cast;rfl) oM oM,List.drop_zero];cases x.barriers.all (lk t x.barriers.length)<;>rfl;rfl;grind
def iq(t:ao):Bool:=t.prots.all (jA t)&&decide ((t.prots.length:Int)<=32)
theorem f30_eq(t:ao)(hl:t.prots.length<9223372036854775808):f30 ⟨t⟩=some (iq t):=by unfold f30 iq;dsimp only;rw[aR,f30_l1_eq t _ hl _ 0 0 rfl (Nat.zero_le _) oM,List.drop_zero];grind
def prs(o:Int):Option (List ByteArray):=(f158 o).bind λr=>f186 r.1.fields
def ch(s:ByteArray):Int×Int:=((fp s 0).getD 0,(fp s 1).getD 0)
def la(o:Int):List (Int×Int):=((prs o).getD []).map ch
theorem xu:∀k,k<57->(match prs ((k:Nat)+1:Int) with|some l=>Nat.blt l.length 100&&l.all λs=>(fp s 0).isSome&&(fp s 1).isSome|none=>false)=true:=by decide+kernel
theorem f158_ok:∀k,k<57->(match f158 ((k:Nat)+1:Int) with|some r=>r.2|none=>false)=true:=by decide+kernel
theorem f158_eq{o:Int}(h1:1<=o)(h2:o<=57):∃r,f158 o=some (r,true):=by obtain⟨k,rfl⟩:∃k:Nat,o=(k:Int)+1:=⟨(o - 1).toNat,oM⟩;have:=f158_ok k oM;grind
theorem xv{o:Int}(h1:1<=o)(h2:o<=57):∃l,prs o=some l/\l.length<100/\∀s∈l,(∃c,fp s 0=some c)/\∃c,fp s 1=some c:=by
 obtain⟨k,rfl⟩:∃k:Nat,o=(k:Int)+1:=⟨(o - 1).toNat,oM⟩;have:=xu k oM;cases h:prs ((k:Int)+1) with
 |none=>grind
 |some l=>rw[h] at this;rw[Bool.and_eq_true] at this;refine⟨l,rfl,by simpa using this.1,λs hs=>?_⟩;have:=List.all_eq_true.1 this.2 s hs;rw[Bool.and_eq_true] at this;exact⟨Option.isSome_iff_exists.1 this.1,Option.isSome_iff_exists.1 this.2⟩
def rng(w v:Int):Bool:= !(decide (v<(f189 w).1)||decide (v>(f189 w).2))
def fl:List (Int×Int)->Int->Int->Int->Int->Int->Int->Bool
 |[],d,a,b,n,m,to=>(decide (d=0))&&((decide (a=0))&&((decide (b=0))&&((decide (n=0))&&((decide (m=0))&&((decide (to=0))&&true)))))
 |(c,w)::r,d,a,b,n,m,to=>
  bif decide (c=68) then rng w d&&fl r 0 a b n m to else
  bif decide (c=65) then rng w a&&fl r d 0 b n m to else
  bif decide (c=66) then rng w b&&fl r d a 0 n m to else
  bif decide (c=78) then rng w n&&fl r d a b 0 m to else
  bif decide (c=77) then rng w m&&fl r d a b n 0 to else rng w to&&fl r d a b n m 0
theorem f99_l1_eq(k1 k2 k3 k4 k5 k6:Int->Int->Int->Int->Int->Int->ByteArray->ByteArray->Int->Int->Int->Int->Option Bool)
  (h1:∀a b c d e f g h i j k l,k1 a b c d e f g h i j k l=some false)(h2:∀a b c d e f g h i j k l,k2 a b c d e f g h i j k l=some false)(h3:∀a b c d e f g h i j k l,k3 a b c d e f g h i j k l=some false)
  (h4:∀a b c d e f g h i j k l,k4 a b c d e f g h i j k l=some false)(h5:∀a b c d e f g h i j k l,k5 a b c d e f g h i j k l=some false)(h6:∀a b c d e f g h i j k l,k6 a b c d e f g h i j k l=some false)
  (k7:Int->Int->Int->Int->Int->Int->ByteArray->ByteArray->Option Bool)(h7:∀d a b n m to x y,k7 d a b n m to x y=some (fl [] d a b n m to))(r:gL×Bool)(L:List ByteArray)(hL:∀s∈L,(∃c,fp s 0=some c)/\∃c,fp s 1=some c)(hl:L.length<9223372036854775808):
  ∀(n i:Nat)(z d a b vn m to:Int),z=(i:Int)->i<=L.length->L.length<n+i->f99_l1 k1 k2 k3 k4 k5 k6 k7 r L n z d a b vn m to=some (fl ((L.drop i).map ch) d a b vn m to)
 |0,i,z,_,_,_,_,_,_,_,_,h=>oM
 |n+1,i,z,d,a,b,vn,m,to,hz,hi,h=>by
  subst hz;rw[f99_l1];by_cases hh:i<L.length;obtain⟨⟨c,hc⟩,w,hw⟩:=hL _ (List.getElem_mem hh);have ih:=λd a b vn m to=>f99_l1_eq k1 k2 k3 k4 k5 k6 h1 h2 h3 h4 h5 h6 k7 h7 r L hL hl n (i+1) _ d a b vn m to (by push_cast;rfl) oM oM;have he:ch L[i]=(c,w):=by grind [ch]
  rw[bg hh,List.map_cons,he,fl,dcT (by omega:(i:Int)<(L.length:Int)),cdT,bj hh,bnS,hc,bnS,w64 oM oM];simp only[aR,hw,bnS,h1,h2,h3,h4,h5,h6,ih];unfold rng;cases decide (c=68);cases decide (c=65);cases decide (c=66);grind;grind;grind;grind;grind
def iE(x:aB):Bool:= !((!(decide (1<=x.op)&&decide (x.op<=57)))||(decide (x.op=27)&&decide (x.n>x.m)))&&(!((decide (x.op=37)&&decide ((IntKind.u8.wrap x.n)=6))&&(!decide (x.m=0)))&&fl (la x.op) x.d x.a x.b x.n x.m x.to)
theorem f99_eq(x:aB)(ho:0<=x.op/\x.op<=255):f99 x=some (iE x):=by
 unfold f99 iE;by_cases h:1<=x.op/\x.op<=57;obtain⟨r,hr⟩:=f158_eq h.1 h.2;obtain⟨l,hl,hlen,hg⟩:=xv h.1 h.2;have hf:f186 r.fields=some l:=by grind [prs]
 rw[hr,bnS,dcT h.1,dcT h.2];rw[Bool.not_true,Bool.false_or,Bool.and_true,Bool.not_true,Bool.false_or];cases decide (x.op=27)&&decide (x.n>x.m);rw[cdF];cases (decide (x.op=37)&&decide ((IntKind.u8.wrap x.n)=6))&&(!decide (x.m=0));rw[cdF];simp only[aR];rw[bnS,hf,bnS];refine(f99_l1_eq _ _ _ _ _ _ (λ_ _ _ _ _ _ _ _ _ _ _ _=>rfl) (λ_ _ _ _ _ _ _ _ _ _ _ _=>rfl) (λ_ _ _ _ _ _ _ _ _ _ _ _=>rfl) (λ_ _ _ _ _ _ _ _ _ _ _ _=>rfl) (λ_ _ _ _ _ _ _ _ _ _ _ _=>rfl) (λ_ _ _ _ _ _ _ _ _ _ _ _=>rfl) _ (by intro d a b n m to _ _;rfl) _ l hg oM _ 0 0 _ _ _ _ _ _ rfl (Nat.zero_le _) oM).trans ?_;grind [la];rfl;rfl;have e:f158 x.op=some ((gL.mk ByteArray.empty ByteArray.empty),false):=by grind [f158,w64]
 grind
def ma(t:ao)(task n:Int):Int×Bool:=match idx t.tasks task with
 |some x=>(match idx x.entries n with
  |some e=>((i64.wrap ((i64.wrap ((List.length e.ins:Int)+(List.length e.outs:Int)))+1)),true)
  |none=>(0,false))
 |none=>(0,false)
theorem f101_eq(t:ao)(a n:Int):f101 ⟨t⟩ a n=some (ma t a n):=by unfold f101 ma;by_cases h:0<=a/\a<t.tasks.length;obtain⟨y,hy,_⟩:=bJ h;rw[hy,dcF (show¬a<0 by omega),dcF (show¬a>=(t.tasks.length:Int) by omega)];dsimp only[bnS];by_cases h2:0<=n/\n<y.entries.length;obtain⟨e,he,_⟩:=bJ h2;grind;grind [da];grind [da]
def r8(t:ao)(p n:Int):Bool:=match idx t.prots p with
 |some x=>decide (0<=n)&&decide (n<(x.barriers.length:Int))
 |none=>false
theorem f102_eq(t:ao)(p n:Int):f102 ⟨t⟩ p n=some (r8 t p n):=by unfold f102 r8;by_cases h:0<=p/\p<t.prots.length;obtain⟨y,hy,_⟩:=bJ h;grind;grind [da]
def jtOk(t:ao)(x:aB):Bool:=decide ((i64.wrap (x.to+x.m))<=(t.insns.length:Int))&&(br t.insns x.to (i64.wrap (x.to+x.m))).all (λy=>decide (y.op=29))
def jH(t:ao)(x:aB):Bool:=iE x&&
 bif decide (x.op=3)||decide (x.op=4) then spot t.objs x.n x.m 1 else
 bif decide (x.op=5)||decide (x.op=6) then spot t.objs x.n x.m x.b else
 bif decide (x.op=29)||(decide (x.op=30)||decide (x.op=31)) then at1 t x.to else
 bif decide (x.op=32) then jtOk t x else
 bif decide (x.op=33) then decide (x.n<=t.excs) else
 bif decide (x.op=44)||(decide (x.op=45)||(decide (x.op=46)||decide (x.op=56))) then decide (x.n<(t.lists.length:Int)) else
 bif decide (x.op=50) then decide (x.n<(t.selects.length:Int)) else
 bif decide (x.op=49) then(ma t x.a x.b).2&&spot t.objs x.n 0 (ma t x.a x.b).1 else
 bif decide (x.op=52) then(ma t x.a x.b).2&&decide (x.to<(t.insns.length:Int)) else
 bif decide (x.op=53)||decide (x.op=55) then decide (x.n<(t.prots.length:Int)) else
 bif decide (x.op=54) then r8 t x.n x.m else
 bif decide (x.op=43) then decide (x.m<0)||r8 t x.m x.n else true
theorem yb:la 32=[(65,114),(78,118),(77,108),(84,115)]:=by decide+kernel
theorem tR{x:aB}(h:iE x=true)(ho:x.op=32):0<=x.to/\x.to<=65535/\1<=x.m/\x.m<=65536:=by grind [iE,yb,fl,rng,f189]
theorem vR(L:List aB)(hl:L.length<9223372036854775808):f35 L (λz0=>some (f100 z0))=some (!(L.all λy=>decide (y.op=29))):=by
 rw[f35_eq L _ f100 hl λ_ _=>rfl];congr 1;induction L with
 |nil=>rfl
 |cons x L ih=>rw[List.any_cons,List.all_cons,ih (by simp at hl;omega),Bool.not_and];rfl
theorem f37_eq(t:ao)(x:aB)(ho:0<=x.op/\x.op<=255)(hl:t.insns.length<=65536):f37 ⟨t⟩ x=some (jH t x):=by unfold f37 jH;rw[f99_eq x ho,bnS];cases hm:iE x;rfl;simp only[aR,f89_eq,f47_eq,f101_eq,f102_eq,bnS];rw[Bool.not_true,cdF,Bool.true_and];cases decide (x.op=3);cases decide (x.op=4);cases decide (x.op=5);cases decide (x.op=6);cases decide (x.op=29);cases decide (x.op=30);cases decide (x.op=31);cases h32:decide (x.op=32);cases decide (x.op=33);cases decide (x.op=44);cases decide (x.op=45);cases decide (x.op=46);cases decide (x.op=56);cases decide (x.op=50);grind;rfl;rfl;rfl;rfl;rfl;rfl;obtain⟨a1,a2,a3,a4⟩:=tR hm (of_decide_eq_true h32);unfold jtOk;dsimp only[cdT,cdF,Bool.or_false];by_cases h4:(i64.wrap (x.to+x.m))<=(t.insns.length:Int);rw[dcT h4,cdT];grind [w64,oN,ce,vR,br];grind;rfl;rfl;rfl;rfl;rfl;rfl;rfl
structure Sz(t:ao):Prop where
 ops:∀x∈t.insns,0<=x.op/\x.op<=255
 inits:t.inits.length<9223372036854775808
 sets:∀o∈t.objs,o.set_.length<9223372036854775808
 lists:∀l∈t.lists,l.length<9223372036854775808
 prots:t.prots.length<9223372036854775808
 checks:t.checks.length<9223372036854775808
theorem f10_l1_eq(t:ao)(k:Int->Option Bool)(a b:Option Bool)(ha:∀i:Int,0<=i->k i=a)(ho:∀x∈t.insns,0<=x.op/\x.op<=255)(hl:t.insns.length<=65536):∀(n i:Nat)(z:Int),z=(i:Int)->i<=t.insns.length->t.insns.length<n+i->
  f10_l1 t k (λ_=>b) n z=bif (t.insns.drop i).all (jH t) then b else a
 |0,i,z,_,_,h=>oM
 |n+1,i,z,hz,hi,h=>by
  subst hz;rw[f10_l1];by_cases hh:i<t.insns.length;rw[bg hh,List.all_cons,dcT (by omega:(i:Int)<(t.insns.length:Int)),cdT,bj hh,bnS,aR,f37_eq t _ (ho _ (List.getElem_mem hh)) hl,bnS];cases jH t t.insns[i];grind;dsimp only;rw[Bool.not_true,cdF,w64 oM oM,f10_l1_eq t k a b ha ho hl n (i+1) _ (by push_cast;rfl) oM oM,Bool.true_and];grind
def nh(x:aB):Bool:=decide (x.op=29)||(decide (x.op=33)||(decide (x.op=34)||decide (x.op=57)))
def qN(t:ao):Bool:=match idx t.insns ((t.insns.length:Int) - 1) with
 |some x=>nh x
 |none=>false
def pp(t:ao):Bool:= !(decide ((t.insns.length:Int)<1)||decide ((t.insns.length:Int)>65536))&&(qN t&&(j7 t&&(ef t&&(iy t&&(iq t&&(mj t&&(kZ t&&(pX t&&(jL t (-1) t.checks&&t.insns.all (jH t))))))))))
theorem f10_eq(t:ao)(h:Sz t):f10 t=some (pp t):=by
 unfold f10 pp;cases h1:decide ((t.insns.length:Int)<1)||decide ((t.insns.length:Int)>65536);have hol:(1:Int)<=t.insns.length/\(t.insns.length:Int)<=65536:=by simp_all
 obtain⟨x,hx,_⟩:=bJ (L:=t.insns) (i:=(t.insns.length:Int) - 1) oM;unfold qN;rw[cdF,w64 oM oM,hx,bnS];simp only[aR];rw[f27_eq t h.inits h.sets,f28_eq,f29_eq t h.lists,f30_eq t h.prots,f31_eq,f32_eq,f33_eq,f34_eq t h.checks];rw[f10_l1_eq t _ (some false) _ (λi h0=>by rw[dcT (show i>=0 from h0)];rfl) h.ops oM _ 0 0 rfl (Nat.zero_le _) oM,List.drop_zero];unfold nh;generalize j7 t=b1,ef t=b2,iy t=b3,iq t=b4,mj t=b5,kZ t=b6,pX t=b7,jL t (-1) t.checks=b8,t.insns.all (jH t)=b9;have key:∀b:Bool,(bif b then(some b1).bind λr69=>bif !r69 then some false else(some b2).bind λr70=>bif !r70 then some false else(some b3).bind λr71=>bif !r71 then some false else(some b4).bind λr72=>bif !r72 then some false else(some b5).bind λr73=>bif !r73 then some false else(some b6).bind λr74=>bif !r74 then some false else(some b7).bind λr75=>bif !r75 then some false else(some b8).bind λr76=>bif !r76 then some false else bif b9 then some (!decide ((-1:Int)>=0)) else some false else some false)=some (b&&(b1&&(b2&&(b3&&(b4&&(b5&&(b6&&(b7&&(b8&&b9))))))))):=by grind
 grind;rfl
structure VT(t:ao):Prop where
 sz:Sz t
 n:1<=t.insns.length/\t.insns.length<=65536
 objs:t.objs.length<=4096
 excs:4<=t.excs/\t.excs<=64
 obj:∀o∈t.objs,ff t.objs o=true
 inits:eE t.objs [] t.inits=true
 hdls:t.handlers.length<=4096
 fits:∀x∈t.insns,jH t x=true
 last:qN t=true
 hok:gc t [] t.handlers=true
theorem f46_l1_eq(o:Obj)(v:Int)(r:Option Bool)(hl:o.set_.length<9223372036854775808):∀(n i:Nat)(z:Int),z=(i:Int)->i<=o.set_.length->o.set_.length<n+i->
  f46_l1 o v (λ_=>r) n z=bif (o.set_.drop i).any (λx=>f113 x v) then some true else r
 |0,i,z,_,_,h=>oM
 |n+1,i,z,hz,hi,h=>by
  subst hz;rw[f46_l1];by_cases hh:i<o.set_.length;rw[bg hh,List.any_cons,dcT (by omega:(i:Int)<(o.set_.length:Int)),cdT,bj hh,bnS,w64 (x:=(i:Int)+1) oM oM,f46_l1_eq o v r hl n (i+1) _ (by push_cast;rfl) oM oM];have e:f113 o.set_[i] v=decide (v=i64.wrap (o.set_[i]+1)):=by grind [f113]
  grind;grind
theorem f46_eq(o:Obj)(v:Int)(hl:o.set_.length<9223372036854775808):f46 o v=some (fits o v):=by unfold f46 fits;cases o.ptr;rfl;rw[Bool.not_true,cdF,cdT,aR,f46_l1_eq o v _ hl _ 0 0 rfl (Nat.zero_le _) oM,List.drop_zero];grind
def pN(os:List Obj)(L:List Int):Nat->List Int->Bool
 |_,[]=>true
 |i,x::r=>(decide (0<=x)&&aim os x&&(bif Nat.beq i 0 then true else decide ((L[i - 1]?).getD 0<x)))&&pN os L (i+1) r
theorem yu{os:List Obj}{x:Int}:aim os x=true->0<=x/\x<os.length:=by grind [aim,idx]
theorem uV(os:List Obj)(L:List Int):∀(i:Nat),i<=L.length->pN os L i (L.drop i)=j0 os (if i=0 then -1 else(L[i - 1]?).getD 0) (L.drop i)\/∃j,j<i/\(L[j]?).getD 0<0:=by
 intro i hi;generalize hk:L.length - i=k;induction k generalizing i with
 |zero=>left;rw[List.drop_eq_nil_of_le oM];rfl
 |succ k ih=>
  have hh:i<L.length:=oM;rw[bg hh];have hg:(L[i]?).getD 0=L[i]:=by grind
  rcases ih (i+1) oM oM with h|⟨j,hj,hn⟩
  left;rw[if_neg oM,Nat.add_sub_cancel,hg] at h;unfold pN j0;rw[h];by_cases h0:i=0;subst h0;rw[if_pos rfl];show((decide ((0:Int)<=L[0])&&aim os L[0]&&true)&&_)=_;grind;rw[if_neg h0];have hb:Nat.beq i 0=false:=by
   cases i with
   |zero=>exact absurd rfl h0
   |succ i=>rfl
  rw[hb,cdF];by_cases ha:aim os L[i]=true;have:=yu ha;grind;simp_all;grind [pN,j0,aim]
theorem f103_l1_eq(t:ao)(o:Obj)(r:Option Bool)(hl:o.set_.length<9223372036854775808):∀(n i:Nat)(z:Int),z=(i:Int)->i<=o.set_.length->o.set_.length<n+i->
  f103_l1 t o (λ_=>r) n z=bif pN t.objs o.set_ i (o.set_.drop i) then r else some false
 |0,i,z,_,_,h=>oM
 |n+1,i,z,hz,hi,h=>by
  subst hz;rw[f103_l1];by_cases hh:i<o.set_.length;rw[bg hh,pN,dcT (by omega:(i:Int)<(o.set_.length:Int)),cdT,bj hh,bnS,w64 (x:=(i:Int)+1) oM oM,f103_l1_eq t o r hl n (i+1) _ (by push_cast;rfl) oM oM];have hprev:i≠0->idx o.set_ (i64.wrap ((i:Int) - 1))=some ((o.set_[i - 1]?).getD 0):=λh0=>by
   grind [w64,bj]
  generalize hx:o.set_[i]=x;unfold aim;by_cases h1:0<=x/\x<t.objs.length;obtain⟨y,hy,_⟩:=bJ h1;rw[dcF (show¬x<0 by omega),dcF (show¬x>=(t.objs.length:Int) by omega),dcT h1.1,hy];simp only[Bool.or_self,cdF,bnS];by_cases h2:y.size=1;rw[dcT h2];cases h3:y.ptr;simp only[Bool.not_true,Bool.not_false,cdF,bnS,Bool.and_self,Bool.true_and];by_cases h0:i=0;subst h0;rfl;rw[dcT (by omega:(i:Int)>0),cdT,hprev h0];have hb:Nat.beq i 0=false:=by
   cases i with
   |zero=>exact absurd rfl h0
   |succ i=>rfl
  grind [dcF];rfl;grind;grind [da];rw[dcF (by omega:¬(i:Int)<(o.set_.length:Int)),cdF,List.drop_eq_nil_of_le oM];rfl
theorem f103_eq(t:ao)(o:Obj)(hl:o.set_.length<9223372036854775808):f103 t o=some (ff t.objs o):=by
 unfold f103 ff;rw[aR,f103_l1_eq t o _ hl _ 0 0 rfl (Nat.zero_le _) oM,List.drop_zero];have hs:pN t.objs o.set_ 0 o.set_=j0 t.objs (-1) o.set_:=by
  rcases uV t.objs o.set_ 0 (Nat.zero_le _) with h|⟨j,hj,_⟩
  simpa using h;omega
 rw[hs];cases (decide (o.size<1)||decide (o.size>16384))||decide (o.lo>o.hi);cases o.ptr;by_cases h0:(o.set_.length:Int)=0;rw[dcT h0,dcF (show¬(o.set_.length:Int)>0 by omega)];have:o.set_=[]:=List.length_eq_zero_iff.1 oM;rw[this];rfl;grind;grind;rfl
theorem f104_eq(t:ao)(o f m:Int)(hm:0<=m):f104 t o f m=some (spot t.objs o f m):=by unfold f104 spot;by_cases h:0<=o/\o<t.objs.length;obtain⟨x,hx,_⟩:=bJ h;grind;grind [da]
theorem f38_l1_eq(t:ao)(k:Int->Option Bool)(hl:t.objs.length<9223372036854775808)(hs:∀o∈t.objs,o.set_.length<9223372036854775808):∀(n i:Nat)(z a:Int),z=(i:Int)->i<=t.objs.length->t.objs.length<n+i->
  f38_l1 t k n a z=bif (t.objs.drop i).all (ff t.objs) then k (pI a (t.objs.drop i)) else some false
 |0,i,z,a,_,_,h=>oM
 |n+1,i,z,a,hz,hi,h=>by
  subst hz;rw[f38_l1];by_cases hh:i<t.objs.length;rw[bg hh,List.all_cons,dcT (by omega:(i:Int)<(t.objs.length:Int)),cdT,bj hh,bnS,f103_eq t _ (hs _ (List.getElem_mem _)),bnS,w64 (x:=(i:Int)+1) oM oM,bnS];cases hc:ff t.objs t.objs[i];rfl;rw[Bool.not_true,cdF,Bool.true_and,f38_l1_eq t k hl hs n (i+1) _ _ (by push_cast;rfl) oM oM];rfl;rw[dcF (by omega:¬(i:Int)<(t.objs.length:Int)),cdF,List.drop_eq_nil_of_le oM];rfl
def neI(x y:bt):Bool:= !(decide (y.o=x.o)&&decide (y.slot=x.slot))
def gF(os:List Obj):List bt->List bt->Bool
 |_,[]=>true
 |P,x::r=>(fg os x&&P.all (neI x))&&gF os (P++ [x]) r
theorem f38_l3_eq(t:ao)(j:Nat)(x:bt)(r:Option Bool)(hj:j<=t.inits.length)(hl:t.inits.length<9223372036854775808):∀(n i:Nat)(z:Int),z=(i:Int)->i<=j->j<n+i->
  f38_l3 t (j:Int) (λ_ _ _=>r) x n z=bif ((t.inits.take j).drop i).all (neI x) then r else some false
 |0,i,z,_,_,h=>oM
 |n+1,i,z,hz,hi,h=>by
  subst hz;rw[f38_l3];have hL:(t.inits.take j).length=j:=by grind
  by_cases hh:i<j;have e:(t.inits.take j)[i]'oM=t.inits[i]'oM:=List.getElem_take;rw[bg (L:=t.inits.take j) (i:=i) oM,List.all_cons,e,dcT (by omega:(i:Int)<(j:Int)),cdT,bj (show i<t.inits.length by omega),bnS,w64 oM oM,f38_l3_eq t j x r hj hl n (i+1) _ (by push_cast;rfl) oM oM];generalize t.inits[i]'oM=y;unfold neI;rw[bnS];cases decide (y.o=x.o)<;>cases decide (y.slot=x.slot)<;>rfl;grind
theorem f38_l2_eq(t:ao)(r:Option Bool)(hl:t.inits.length<9223372036854775808)(hs:∀o∈t.objs,o.set_.length<9223372036854775808):∀(n i:Nat)(z:Int),z=(i:Int)->i<=t.inits.length->t.inits.length<n+i->
  f38_l2 t (λ_=>r) n z=bif gF t.objs (t.inits.take i) (t.inits.drop i) then r else some false
 |0,i,z,_,_,h=>oM
 |n+1,i,z,hz,hi,h=>by
  subst hz;rw[f38_l2];by_cases hh:i<t.inits.length;rw[bg hh,gF,<-List.take_succ_eq_append_getElem hh,dcT (by omega:(i:Int)<(t.inits.length:Int)),cdT,aR,bj hh,bnS,f104_eq _ _ _ _ oM,bnS,w64 oM oM,f38_l2_eq t r hl hs n (i+1) _ (by push_cast;rfl) oM oM];rw[f38_l3_eq t i _ _ oM hl _ 0 0 rfl (Nat.zero_le _) oM,List.drop_zero];generalize t.inits[i]=x;unfold fg;cases hsp:spot t.objs x.o x.slot 1;rfl;obtain⟨y,hy,_⟩:=kr hsp;rw[hy];simp only[Bool.not_true,bnS,cdF,Bool.true_and];rw[f46_eq _ _ (hs _ (nl hy))];cases fits y x.v<;>cases (t.inits.take i).all (neI x)<;>rfl;rw[dcF (by omega:¬(i:Int)<(t.inits.length:Int)),cdF,List.drop_eq_nil_of_le oM];rfl
theorem rX(P:List bt)(m:List ((Int×Int)×Bool))(x:bt):inM (P.foldl (λm x=>co m (x.o,x.slot) true) m) (x.o,x.slot)=(inM m (x.o,x.slot)|| !(P.all (neI x))):=by
 induction P generalizing m with
 |nil=>simp
 |cons y P ih=>rw[List.foldl_cons,ih,nk,List.all_cons];grind [neI,inM]
theorem mw(os:List Obj):∀(r P:List bt),gF os P r=eE os (P.foldl (λm x=>co m (x.o,x.slot) true) []) r
 |[],P=>rfl
 |x::r,P=>by
  rw[gF,eE,mw os r (P++ [x]),List.foldl_append,rX];have e:inM ([]:List ((Int×Int)×Bool)) (x.o,x.slot)=false:=rfl;grind
theorem yt{α:Type}(xs:List α)(F:Nat->Int->Option Bool)(k:Option Bool)(p:α->Bool)(hl:xs.length<9223372036854775808)
  (h0:∀n (i:Nat)(h:i<xs.length),F (n+1) (i:Int)=bif p xs[i] then F n ((i+1:Nat):Int) else some false)
  (h1:∀n,F (n+1) (xs.length:Int)=k):∀(n i:Nat)(z:Int),z=(i:Int)->i<=xs.length->xs.length<n+i->F n z=bif (xs.drop i).all p then k else some false
 |0,i,z,_,_,h=>oM
 |n+1,i,z,hz,hi,h=>by
  subst hz;by_cases hh:i<xs.length;rw[bg hh,List.all_cons,h0 n i hh,yt xs F k p hl h0 h1 n (i+1) _ rfl oM oM];grind;grind
theorem ic{α:Type}(xs:List α)(F:Nat->Int->Option Bool)(k:Option Bool)(p:α->Bool)(n:Nat)(hn:n=9223372036854775808)(hl:xs.length<9223372036854775808)
  (h0:∀n (i:Nat)(h:i<xs.length),F (n+1) (i:Int)=bif p xs[i] then F n ((i+1:Nat):Int) else some false)
  (h1:∀n,F (n+1) (xs.length:Int)=k):F n 0=bif xs.all p then k else some false:=by
 rw[yt xs F k p hl h0 h1 n 0 0 rfl (Nat.zero_le _) oM,List.drop_zero]
theorem g'{i n:Nat}(h:i<n):decide ((i:Int)<(n:Int))=true:=dcT oM
theorem gq{n:Nat}:decide ((n:Int)<(n:Int))=false:=dcF oM
theorem w1{i n:Nat}(h:i<n)(hl:n<9223372036854775808):i64.wrap ((i:Int)+1)=((i+1:Nat):Int):=by rw[w64 oM oM];push_cast;rfl
theorem f105_eq(t:ao)(l:List Int):f105 t l=some (dZ t.objs l):=by
 unfold f105 dZ;by_cases h:(l.length:Int)<=8;rw[dcT h,dcF (by omega:¬(l.length:Int)>8),cdF,aR,
  ic l (f105_l1 t l λ_=>some true) (some true) (pT t.objs) _ rfl oM (λn i hi=>by
   rw[f105_l1,g' hi,cdT,bj hi,bnS,w1 hi oM];generalize l[i]=x;unfold pT;by_cases hx:0<=x/\x<t.objs.length;obtain⟨y,hy,_⟩:=bJ hx;rw[hy,dcF (show¬x<0 by omega)];simp only[cdF,bnS];rw[dcF (show¬x>=(t.objs.length:Int) by omega),cdF,hy,bnS];cases decide (y.size=1)<;>rfl;rw[da hx];by_cases h1:x<0;rw[dcT h1];rfl;rw[dcF h1];simp only[cdF,bnS];rw[dcT (show x>=(t.objs.length:Int) by omega)];rfl) (λn=>by rw[f105_l1,gq,cdF])]
 cases l.all (pT t.objs)<;>rfl;grind
theorem f39_eq(t:ao):f39 t=some (ef t):=by
 unfold f39 ef;cases h1:(decide ((t.tasks.length:Int)<1)||decide ((t.tasks.length:Int)>32));have hl:(t.tasks.length:Int)<=32:=by simp_all
 rw[cdF,aR,ic t.tasks (f39_l1 t λ_=>some true) (some true) (fW t) _ rfl oM (λn i hi=>by
  rw[f39_l1,g' hi,cdT,aR,bj hi,bnS,w1 hi oM];generalize t.tasks[i]=x;unfold fW;have hat:f51 t x.at_=at1 t x.at_:=rfl;rw[hat];cases hc:(((((decide (x.prio<0)||decide (x.prio>31))||(!(at1 t x.at_)))||decide (x.deadline<0))||decide (x.deadline>2147483647))||decide ((x.entries.length:Int)>8));have he:(x.entries.length:Int)<=8:=by simp only[Bool.or_eq_false_iff,decide_eq_false_iff_not] at hc;omega
  rw[cdF,ic x.entries (f39_l2 t (λ_ _ _ _=>f39_l1 t (λ_=>some true) n ((i+1:Nat):Int)) x) (f39_l1 t (λ_=>some true) n ((i+1:Nat):Int)) (eF t.objs) _ rfl oM (λm j hj=>by
   rw[f39_l2,g' hj,cdT,bj hj,bnS,w1 hj oM,f105_eq,bnS,bnS,f105_eq];unfold eF;cases dZ t.objs x.entries[j].ins<;>cases dZ t.objs x.entries[j].outs<;>rfl) (λm=>by rw[f39_l2,gq,cdF])]
  cases x.entries.all (eF t.objs)<;>rfl;rfl) (λn=>by rw[f39_l1,gq,cdF])]
 cases t.tasks.all (fW t)<;>rfl;rfl
theorem u0(a b:Int)(ha: -9223372036854775808<=a/\a<=9223372036854775807)(hb: -9223372036854775808<=b/\b<=9223372036854775807):
  decide ((i64.wrap (BitVec.ofInt i64.bits a|||BitVec.ofInt i64.bits b).toNat)=0)=(decide (a=0)&&decide (b=0)):=by
 have hz:∀x:BitVec 64,i64.wrap (x.toNat:Int)=0↔x=0#64:=λx=>by
  rw[IntKind.wrap_i64];constructor;intro h;apply BitVec.eq_of_toNat_eq;show x.toNat=0;omega;grind
 have hf:∀a:Int, -9223372036854775808<=a/\a<=9223372036854775807->(BitVec.ofInt 64 a=0#64↔a=0):=by grind [BitVec.toNat_ofInt]
 have e:(i64.wrap (BitVec.ofInt i64.bits a|||BitVec.ofInt i64.bits b).toNat=0)↔(a=0/\b=0):=(hz _).trans (BitVec.or_eq_zero_iff.trans (and_congr (hf a ha) (hf b hb)));grind
theorem wo(t:ao)(o:Int)(a:aX)(h1: -9223372036854775808<=a.entry/\a.entry<=9223372036854775807)(h2: -9223372036854775808<=a.time/\a.time<=9223372036854775807):f107 t o a=some (gp t o a):=by
 unfold f107 gp;rw[u0 _ _ h1 h2,f104_eq t o a.guard 1 oM,f104_eq t o a.time 1 oM];have hat:f51 t a.at_=at1 t a.at_:=rfl;have h8:decide (a.entry<=7)=decide (a.entry<8):=by grind
 rw[hat,h8];cases at1 t a.at_;rfl;cases decide (a.guard= -1);cases spot t.objs o a.guard 1;rfl;cases decide (a.kind=1);cases decide (a.kind=2)<;>cases decide (a.kind=3)<;>cases decide (a.kind=4)<;>cases decide (a.entry=0)<;>cases decide (a.time=0)<;>rfl;rfl;cases decide (a.kind=1);cases decide (a.kind=2)<;>cases decide (a.kind=3)<;>cases decide (a.kind=4)<;>cases decide (a.entry=0)<;>cases decide (a.time=0)<;>rfl;rfl
theorem rK{os:List Obj}{o:Int}(hp:∀y,idx os o=some y->1<=y.size/\y.size<=65536):spot os o 0 1=(decide (0<=o)&&decide (o<(os.length:Int))):=by unfold spot;by_cases h:0<=o/\o<os.length;obtain⟨x,hx,_⟩:=bJ h;grind [w64];grind [da]
theorem f41_l2_eq(t:ao)(x:aC)(r:Option Bool)(ha:∀a∈x.alts,(-9223372036854775808<=a.entry/\a.entry<=9223372036854775807)/\-9223372036854775808<=a.time/\a.time<=9223372036854775807)(hl:x.alts.length<9223372036854775808)(n:Nat)(hn:n=9223372036854775808):
  f41_l2 t (λ_ _ _=>r) x n 0=bif x.alts.all (gp t x.obj) then r else some false:=
 ic x.alts (f41_l2 t (λ_ _ _=>r) x) r (gp t x.obj) n hn hl (λm j hj=>by
  have:=ha _ (List.getElem_mem hj);rw[f41_l2,g' hj,cdT,bj hj,bnS,w1 hj hl,wo _ _ _ this.1 this.2,bnS];cases gp t x.obj x.alts[j]<;>rfl) (λm=>by rw[f41_l2,gq,cdF])
def ir{α:Type}(q:List α->α->Bool):List α->List α->Bool
 |_,[]=>true
 |P,x::r=>q P x&&ir q (P++ [x]) r
theorem wL{α:Type}(xs:List α)(F:Nat->Int->Option Bool)(k:Option Bool)(q:List α->α->Bool)(hl:xs.length<9223372036854775808)
  (h0:∀n (i:Nat)(h:i<xs.length),F (n+1) (i:Int)=bif q (xs.take i) xs[i] then F n ((i+1:Nat):Int) else some false)
  (h1:∀n,F (n+1) (xs.length:Int)=k):∀(n i:Nat)(z:Int),z=(i:Int)->i<=xs.length->xs.length<n+i->F n z=bif ir q (xs.take i) (xs.drop i) then k else some false
 |0,i,z,_,_,h=>oM
 |n+1,i,z,hz,hi,h=>by
  subst hz;by_cases hh:i<xs.length;rw[bg hh,ir,<-List.take_succ_eq_append_getElem hh,h0 n i hh,wL xs F k q hl h0 h1 n (i+1) _ rfl oM oM];grind;have e:i=xs.length:=oM;subst e;rw[h1,List.drop_eq_nil_of_le (Nat.le_refl _)];rfl
theorem qD{α:Type}(xs:List α)(F:Nat->Int->Option Bool)(k:Option Bool)(q:List α->α->Bool)(n:Nat)(hn:n=9223372036854775808)(hl:xs.length<9223372036854775808)
  (h0:∀n (i:Nat)(h:i<xs.length),F (n+1) (i:Int)=bif q (xs.take i) xs[i] then F n ((i+1:Nat):Int) else some false)
  (h1:∀n,F (n+1) (xs.length:Int)=k):F n 0=bif ir q [] xs then k else some false:=by
 rw[wL xs F k q hl h0 h1 n 0 0 rfl (Nat.zero_le _) oM,List.drop_zero,List.take_zero]
theorem pG{α:Type}(xs:List α)(j:Nat)(hj:j<=xs.length)(F:Nat->Int->Option Bool)(k:Option Bool)(p:α->Bool)(n:Nat)(hn:n=9223372036854775808)(hl:xs.length<9223372036854775808)
  (h0:∀n (i:Nat)(h:i<xs.length),i<j->F (n+1) (i:Int)=bif p xs[i] then F n ((i+1:Nat):Int) else some false)
  (h1:∀n,F (n+1) (j:Int)=k):F n 0=bif (xs.take j).all p then k else some false:=by
 have hL:(xs.take j).length=j:=by grind
 refine ic (xs.take j) F k p n hn oM (λm i h=>?_) (λm=>by rw[hL];exact h1 m);grind
def oH(n:Int)(P:List Int)(x:Int):Bool:= !(decide (x<1)||decide (x>=n))&&P.all λy=> !(decide (y=x))
theorem tP(P:List Int)(m:List (Int×Bool))(x:Int):inM (P.foldl (λm x=>co m x true) m) x=(inM m x|| !(P.all λy=> !(decide (y=x)))):=by
 induction P generalizing m with
 |nil=>simp
 |cons y P ih=>grind [nk,inM]
theorem oG(n:Int):∀(r P:List Int),ir (oH n) P r=gb n (P.foldl (λm x=>co m x true) []) r
 |[],P=>rfl
 |x::r,P=>by
  rw[ir,gb,oG n r (P++ [x]),List.foldl_append,tP];have e:inM ([]:List (Int×Bool)) x=false:=rfl;grind [oH]
theorem f41_l4_eq(t:ao)(l:List Int)(r:Option Bool)(hl:l.length<9223372036854775808)(n:Nat)(hn:n=9223372036854775808):
  f41_l4 t (λ_=>r) l n 0=bif gb t.tasks.length [] l then r else some false:=by
 rw[show gb (t.tasks.length:Int) [] l=ir (oH t.tasks.length) [] l from(oG _ l []).symm];refine qD l (f41_l4 t (λ_=>r) l) r (oH t.tasks.length) n hn hl (λm i hi=>?_) (λm=>by rw[f41_l4,gq,cdF]);rw[f41_l4,g' hi,cdT,aR,bj hi,bnS,w1 hi hl,bnS];unfold oH;rw[pG l i oM (f41_l5 l (i:Int) λ_=>f41_l4 t (λ_=>r) l m ((i+1:Nat):Int)) (f41_l4 t (λ_=>r) l m ((i+1:Nat):Int)) (λy=> !(decide (y=l[i]))) _ rfl hl (λm' j hj hji=>by
  rw[f41_l5,dcT (by omega:(j:Int)<(i:Int)),cdT,bj hj,bnS,bj hi,bnS,w1 hj hl];cases decide (l[j]=l[i])<;>rfl) (λm'=>by rw[f41_l5,gq,cdF])]
 grind
theorem f41_l3_eq(t:ao)(r:Option Bool)(hl:t.lists.length<9223372036854775808)(n:Nat)(hn:n=9223372036854775808):
  f41_l3 t (λ_=>r) n 0=bif t.lists.all (kW t) then r else some false:=by
 refine ic t.lists (f41_l3 t λ_=>r) r (kW t) n hn hl (λm i hi=>?_) (λm=>by rw[f41_l3,gq,cdF]);rw[f41_l3,g' hi,cdT,aR,bj hi,bnS,w1 hi hl];generalize t.lists[i]=x;unfold kW;by_cases h:(x.length:Int)>32;grind;rw[dcF h,cdF,f41_l4_eq t x _ oM _ rfl];grind
structure SzA(t:ao):Prop where
 alts:∀x∈t.selects,∀a∈x.alts,(-9223372036854775808<=a.entry/\a.entry<=9223372036854775807)/\-9223372036854775808<=a.time/\a.time<=9223372036854775807
theorem f41_l1_eq(t:ao)(ha:SzA t)(hp:∀o y,idx t.objs o=some y->1<=y.size/\y.size<=65536)(r:Option Bool)(hl:t.selects.length<9223372036854775808)(n:Nat)(hn:n=9223372036854775808):
  f41_l1 t (λ_=>r) n 0=bif t.selects.all (kN t) then r else some false:=by
 refine ic t.selects (f41_l1 t λ_=>r) r (kN t) n hn hl (λm i hi=>?_) (λm=>by rw[f41_l1,gq,cdF]);rw[f41_l1,g' hi,cdT,aR,bj hi,bnS,w1 hi hl];have hx:=ha.alts _ (List.getElem_mem hi);generalize t.selects[i]=x at hx;have hat:f51 t x.else_=at1 t x.else_:=rfl;rw[f104_eq t x.obj 0 1 oM,rK (hp x.obj),hat];unfold kN;by_cases hc:1<=(x.alts.length:Int)/\(x.alts.length:Int)<=16;rw[dcF (show¬(x.alts.length:Int)<1 by omega),dcF (show¬(x.alts.length:Int)>16 by omega)];rw[f41_l2_eq t x _ hx oM _ rfl];by_cases h1:0<=x.obj;rw[dcT h1,dcF (show¬x.obj<0 by omega)];by_cases h2:x.obj<(t.objs.length:Int);rw[dcT h2,dcF (show¬x.obj>=(t.objs.length:Int) by omega)];cases decide (x.else_= -1)<;>cases at1 t x.else_<;>cases x.alts.all (gp t x.obj)<;>rfl;grind;grind;grind
theorem f41_eq(t:ao)(ha:SzA t)(hp:∀o y,idx t.objs o=some y->1<=y.size/\y.size<=65536):f41 t=some (mj t&&iy t):=by unfold f41 mj iy;by_cases h1:(t.selects.length:Int)>1024;grind;rw[dcF h1,Bool.false_or];by_cases h2:(t.lists.length:Int)>4096;grind;rw[dcF h2,cdF,aR,f41_l1_eq t ha hp _ oM _ rfl,aR,f41_l3_eq t _ oM _ rfl];grind
def vM(t:ao)(P:List am)(x:am):Bool:= !(gd t x)&&P.all λg=> !((!(decide (g.from_>=x.from_)&&decide (g.to<=x.to)))&&(!(decide (g.to<=x.from_)||decide (x.to<=g.from_))))
theorem qJ{x g:am}(hx:x.from_<x.to)(hg:g.from_<g.to):iw x g= !((!(decide (g.from_>=x.from_)&&decide (g.to<=x.to)))&&(!(decide (g.to<=x.from_)||decide (x.to<=g.from_)))):=by
 have e:decide ((if x.from_>g.from_ then x.from_ else g.from_)<(if x.to<g.to then x.to else g.to))=(!(decide (g.to<=x.from_)||decide (x.to<=g.from_))):=by by_cases h1:g.to<=x.from_;grind;grind
 unfold iw;rw[e]
theorem rY{t:ao}{x:am}(h:gd t x=false):x.from_<x.to:=by unfold gd at h;simp only[Bool.or_eq_false_iff,decide_eq_false_iff_not] at h;omega
theorem qS(t:ao):∀(r P:List am),(∀g∈P,g.from_<g.to)->ir (vM t) P r=gc t P r
 |[],P,_=>rfl
 |x::r,P,hP=>by
  rw[ir,gc,vM];cases hb:gd t x;have hx:=rY hb;rw[qS t r (P++ [x]) (λg hg=>by
   rcases List.mem_append.1 hg with h|h
   exact hP g h;rw[List.mem_singleton] at h;subst h;exact hx)]
  have e:(P.all λg=> !((!(decide (g.from_>=x.from_)&&decide (g.to<=x.to)))&&(!(decide (g.to<=x.from_)||decide (x.to<=g.from_)))))=P.all (iw x):=by rw[Bool.eq_iff_iff,List.all_eq_true,List.all_eq_true];constructor;intro h g hg;rw[qJ hx (hP g hg)];exact h g hg;intro h g hg;rw[<-qJ hx (hP g hg)];exact h g hg
  rw[e];rfl
theorem f42_eq(t:ao):f42 t=some (kZ t):=by
 unfold f42 kZ;cases h1:decide ((t.handlers.length:Int)>4096);have hl:(t.handlers.length:Int)<=4096:=by simp_all
 rw[cdF,aR,qD t.handlers (f42_l1 t λ_=>some true) (some true) (vM t) _ rfl oM (λn i hi=>by
  rw[f42_l1,g' hi,cdT,aR,bj hi,bnS,w1 hi oM];generalize t.handlers[i]=x;unfold vM;have hat:f51 t x.at_=at1 t x.at_:=rfl;have hb:(((((decide (x.from_<0))||(decide (x.from_>=x.to)))||(decide (x.to>(List.length t.insns:Int))))||(!(f51 t x.at_)))||((decide (x.at_>=x.from_))&&(decide (x.at_<x.to))))=gd t x:=by rw[hat];rfl
  rw[hb];cases gd t x;rw[cdF,pG t.handlers i oM (f42_l2 t (i:Int) (λ_ _ _ _=>f42_l1 t (λ_=>some true) n ((i+1:Nat):Int)) x) (f42_l1 t (λ_=>some true) n ((i+1:Nat):Int)) (λg=> !((!(decide (g.from_>=x.from_)&&decide (g.to<=x.to)))&&(!(decide (g.to<=x.from_)||decide (x.to<=g.from_))))) _ rfl oM (λm j hj hji=>by
   rw[f42_l2,dcT (by omega:(j:Int)<(i:Int)),cdT,bj hj,bnS,w1 hj oM];generalize t.handlers[j]=g;cases ((!(decide (g.from_>=x.from_)&&decide (g.to<=x.to)))&&(!(decide (g.to<=x.from_)||decide (x.to<=g.from_))))<;>rfl) (λm=>by rw[f42_l2,gq,cdF])]
  rfl;rfl) (λn=>by rw[f42_l1,gq,cdF]),qS t _ _ λg hg=>by cases hg]
 cases gc t [] t.handlers<;>rfl;rfl
def lpQ(t:ao)(P:List Loop)(x:Loop):Bool:=tG t x&&P.all λy=> !(decide (y.back=x.back))
theorem vI(P:List Loop)(m:List (Int×Bool))(x:Loop):inM (P.foldl (λm x=>co m x.back true) m) x.back=(inM m x.back|| !(P.all λy=> !(decide (y.back=x.back)))):=by
 induction P generalizing m with
 |nil=>simp
 |cons y P ih=>grind [nk,inM]
theorem tF(t:ao):∀(r P:List Loop),ir (lpQ t) P r=iZ t (P.foldl (λm x=>co m x.back true) []) r
 |[],P=>rfl
 |x::r,P=>by
  rw[ir,iZ,tF t r (P++ [x]),List.foldl_append,vI];have e:inM ([]:List (Int×Bool)) x.back=false:=rfl;grind [lpQ,tG]
theorem vE(t:ao)(x:Loop):(((((!(f51 t x.head))||(!(f51 t x.back)))||(decide (x.head>x.back)))||(decide (x.bound<0)))||(decide (x.bound>2147483647)))=(((decide (x.head<0)||decide (x.head>x.back))||(!(at1 t x.back)))||(decide (x.bound<0)||decide (x.bound>2147483647))):=by have h1:f51 t x.head=(decide (x.head>=0)&&decide (x.head<(t.insns.length:Int))):=rfl;grind [f51,at1]
theorem f43_eq(t:ao):f43 t=some (pX t):=by
 unfold f43 pX;cases h1:decide ((t.loops.length:Int)>4096);have hl:(t.loops.length:Int)<=4096:=by simp_all
 rw[cdF,aR,qD t.loops (f43_l1 t λ_=>some true) (some true) (lpQ t) _ rfl oM (λn i hi=>by
  rw[f43_l1,g' hi,cdT,aR,bj hi,bnS,w1 hi oM];generalize t.loops[i]=x;rw[vE];unfold lpQ tG;cases hc:(decide (x.head<0)||decide (x.head>x.back))||(!(at1 t x.back));have h2:at1 t x.back=true:=by cases h:at1 t x.back;rw[h] at hc;simp at hc;rfl
  obtain⟨y,hy,_⟩:=bJ (gX.1 h2);rw[hy,bnS];cases hd:(decide (x.bound<0)||decide (x.bound>2147483647));rw[Bool.or_self,cdF];have e:((((!decide (y.op=29))&&(!decide (y.op=30)))&&(!decide (y.op=31)))||(!decide (y.to=x.head)))= !(f97 y x.head):=by unfold f97;cases decide (y.op=29)<;>cases decide (y.op=30)<;>cases decide (y.op=31)<;>cases decide (y.to=x.head)<;>rfl
  rw[e,pG t.loops i oM (f43_l2 t (i:Int) n (λ_ _ _ _ _ _ _ _ _ _=>f43_l1 t (λ_=>some true) n ((i+1:Nat):Int)) x y) (f43_l1 t (λ_=>some true) n ((i+1:Nat):Int)) (λg=> !(decide (g.back=x.back))) _ rfl oM (λm j hj hji=>by
   rw[f43_l2,dcT (by omega:(j:Int)<(i:Int)),cdT,bj hj,bnS,w1 hj oM];generalize t.loops[j]=g;cases decide (g.back=x.back)<;>rfl) (λm=>by rw[f43_l2,gq,cdF])]
  dsimp only;cases f97 y x.head<;>rfl;rw[Bool.or_true,Bool.not_true,Bool.and_false,Bool.false_and];rfl;rfl) (λn=>by rw[f43_l1,gq,cdF]),show ir (lpQ t) [] t.loops=iZ t [] t.loops from tF t _ []]
 cases iZ t [] t.loops<;>rfl;rfl
def l7(z:Bool×Int):Int:=bif z.1 then z.2 else -1
theorem t3(g:Int->ah->Bool×Int)(hg:∀l e,0<=l->l<=256->(g l e).1=true->0<=(g l e).2/\(g l e).2<=256):∀(L:List ah)(l:Int),0<=l->l<=256->(exL g L l).1=true->0<=(exL g L l).2/\(exL g L l).2<=256
 |[],l,h0,h1,_=>⟨h0,h1⟩
 |e::r,l,h0,h1,h=>by
  rw[exL] at h⊢;cases hb:(g l e).1;grind;rw[hb,cdT] at h;have:=hg l e h0 h1 hb;exact t3 g hg r _ this.1 this.2 h
theorem p9(os:List Obj)(ent:Int):∀(n:Nat)(deep left:Int)(e:ah),0<=left->left<=256->(exF os ent n deep left e).1=true->0<=(exF os ent n deep left e).2/\(exF os ent n deep left e).2<=256
 |0,deep,left,e,_,_,h=>by cases h
 |n+1,deep,left,e,h0,h1,h=>by
  rw[exF] at h⊢;cases hb:((decide (i64.wrap (left - 1)<0)||decide (deep>64))||eI os ent e);rw[hb,cdF] at h;rw[w64 oM oM] at hb h⊢;have:¬left - 1<0:=by simp_all
  exact t3 _ (λl e a b c=>p9 os ent n (deep+1) l e a b c) _ _ oM oM h;grind
theorem f106_loop(rec:ao->Int->ah->Int->Int->Option Int)(t:ao)(ent:Int)(e:ah)(deep:Int)(g:Int->ah->Bool×Int)
  (hr:∀l x,0<=l->l<=256->rec t ent x (i64.wrap (deep+1)) l=some (l7 (g l x)))(hg:∀l e,0<=l->l<=256->(g l e).1=true->0<=(g l e).2/\(g l e).2<=256)(hl:e.l.length<9223372036854775808):
  ∀(n i:Nat)(z left:Int),z=(i:Int)->i<=e.l.length->e.l.length<n+i->0<=left->left<=256->f106s_l1 rec t ent e deep (λn=>some n) n left z=some (l7 (exL g (e.l.drop i) left))
 |0,i,z,left,_,_,h,_,_=>oM
 |n+1,i,z,left,hz,hi,h,h0,h1=>by
  subst hz;rw[f106s_l1,dcT (show left>=0 from h0),Bool.and_true];by_cases hh:i<e.l.length;rw[bg hh,g' hh,cdT,bj hh,bnS,hr _ _ h0 h1,bnS,w1 hh hl,exL];cases hb:(g left e.l[i]).1;rw[l7,hb,cdF,cdF];cases n with
  |zero=>omega
  |succ n=>rw[f106s_l1,dcF (show¬(-1:Int)>=0 by omega),Bool.and_false];rfl
  have:=hg _ _ h0 h1 hb;rw[l7,hb,cdT,cdT,f106_loop rec t ent e deep g hr hg hl n (i+1) _ _ rfl oM oM this.1 this.2];have ei:i=e.l.length:=oM;subst ei;rw[gq,cdF,List.drop_eq_nil_of_le (Nat.le_refl _)];rfl
theorem pK(f p a b c d l lo hi:Bool):((!f)||(!((((((a&&b)&&c)&&d)&&l)&&lo)&&hi))||(!p))=(((((((((!f)||(!p))||(!a))||(!b))||(!c))||(!d))||(!l))||(!lo))||(!hi)):=by grind
def fq(z:Bool×Int×Int×Int×Int×Int)(e:ah):Bool:=
 ((((((((!z.1)||(!decide ((List.length e.l:Int)=z.2.1)))||(!decide (e.op=z.2.2.1)))||(!decide (e.n=z.2.2.2.1)))||(!decide (e.o=z.2.2.2.2.1)))||(!decide (e.off=z.2.2.2.2.2)))||(!decide (e.len=0)))||(!decide (e.lo=0)))||(!decide (e.hi=0))
theorem om(os:List Obj)(ent:Int)(e:ah):eI os ent e=fq (ct os ent e) e:=rfl
def nG(rec136:ao->Int->ah->Int->Int->Option (Int))(t0:ao)(entries1:Int)(e2:ah)(deep3:Int)(n4:Int)(parts174:Int)(fine175:Bool)(c01176:Int)(c02177:Int)(c03178:Int)(c04179:Int):Option Int:=
 (bif (((!fine175)||(!(((((((decide (e2.op=c01176))&&(decide (e2.n=c02177)))&&(decide (e2.o=c03178)))&&(decide (e2.off=c04179)))&&(decide (e2.len=0)))&&(decide (e2.lo=0)))&&(decide (e2.hi=0)))))||(!decide ((List.length e2.l:Int)=parts174))) then some (-1) else aq (λ(n186:Int)=>
 some n186) λk187=>
 (f106s_l1 rec136 t0 entries1 e2 deep3 k187 9223372036854775808 (i64.wrap (n4 - 1)) 0))
theorem f106s_W(rec136:ao->Int->ah->Int->Int->Option (Int))(t:ao)(ent:Int)(e:ah)(deep left:Int):f106s rec136 t ent e deep left=
  (bif ((decide (left=0))||(decide (deep>64))) then some (-1) else
  bif (decide (e.kind=1)) then nG rec136 t ent e deep left 0 true 0 e.n 0 0 else
  bif (decide (e.kind=2)) then(Option.bind (f104 t e.o e.off 1) λr181=>Option.bind (bif r181 then(Option.bind (idx t.objs e.o) λx183=>some (!x183.ptr)) else some false) λb182=>nG rec136 t ent e deep left 0 b182 0 0 e.o e.off) else
  bif (decide (e.kind=14)) then nG rec136 t ent e deep left 0 ((decide (e.n>=0))&&(decide (e.n<ent))) 0 e.n 0 0 else
  bif (decide (e.kind=4)) then nG rec136 t ent e deep left 1 true 18 0 0 0 else
  bif (decide (e.kind=5)) then nG rec136 t ent e deep left 2 ((decide (e.op>=7))&&(decide (e.op<=15))) e.op 0 0 0 else
  bif (decide (e.kind=6)) then(bif decide (e.kind=6) then nG rec136 t ent e deep left 2 true 0 0 0 0 else some (-1)) else(bif decide (e.kind=7) then nG rec136 t ent e deep left 2 true 0 0 0 0 else some (-1))):=rfl
theorem wt(rec:ao->Int->ah->Int->Int->Option Int)(t:ao)(ent:Int)(e:ah)(deep left:Int)(g:Int->ah->Bool×Int)
  (hr:∀l x,0<=l->l<=256->rec t ent x (i64.wrap (deep+1)) l=some (l7 (g l x)))(hg:∀l e,0<=l->l<=256->(g l e).1=true->0<=(g l e).2/\(g l e).2<=256)(h0:1<=left)(h1:left<=256)
  (parts:Int)(fine:Bool)(a b c d:Int)(hp:parts<=2):nG rec t ent e deep left parts fine a b c d=some (l7 (bif fq (fine,parts,a,b,c,d) e then(false,i64.wrap (left - 1)) else exL g e.l (i64.wrap (left - 1)))):=by
 unfold nG;rw[pK];show(bif fq (fine,parts,a,b,c,d) e then _ else _)=_;cases hs:fq (fine,parts,a,b,c,d) e;have hl:(e.l.length:Int)=parts:=by grind [fq]
 rw[cdF,cdF,aR,w64 oM oM,f106_loop rec t ent e deep g hr hg oM _ 0 0 _ rfl (Nat.zero_le _) oM oM oM,List.drop_zero];rfl
theorem f106s_eq(rec:ao->Int->ah->Int->Int->Option Int)(t:ao)(ent:Int)(e:ah)(deep left:Int)(g:Int->ah->Bool×Int)
  (hr:∀l x,deep<=64->0<=l->l<=256->rec t ent x (i64.wrap (deep+1)) l=some (l7 (g l x)))(hg:∀l e,0<=l->l<=256->(g l e).1=true->0<=(g l e).2/\(g l e).2<=256)(h0:0<=left)(h1:left<=256):
  f106s rec t ent e deep left=some (l7 (bif (decide (i64.wrap (left - 1)<0)||decide (deep>64))||eI t.objs ent e then(false,i64.wrap (left - 1)) else exL g e.l (i64.wrap (left - 1)))):=by
 rw[f106s_W];have e0:decide (i64.wrap (left - 1)<0)=decide (left=0):=by grind [w64]
 rw[e0];cases hc:(decide (left=0)||decide (deep>64));simp only[Bool.or_eq_false_iff,decide_eq_false_iff_not] at hc;have W:=wt rec t ent e deep left g (λl x=>hr l x oM) hg oM h1;rw[cdF,Bool.false_or,om];unfold ct;cases k1:decide (e.kind=1);cases k2:decide (e.kind=2);cases k3:decide (e.kind=14);cases k4:decide (e.kind=4);cases k5:decide (e.kind=5);cases k6:decide (e.kind=6);cases k7:decide (e.kind=7);rfl;grind;grind;refine(W 2 _ e.op 0 0 0 oM).trans ?_;have es:fq ((decide (e.op>=7)&&decide (e.op<=15)),2,e.op,0,0,0) e=fq (true,2,(if(if 15<e.op then 15 else e.op)>7 then(if 15<e.op then 15 else e.op) else 7),0,0,0) e:=by
  by_cases hh:7<=e.op/\e.op<=15;grind;have:e.op≠(if(if 15<e.op then 15 else e.op)>7 then(if 15<e.op then 15 else e.op) else 7):=by omega
  grind [fq]
 rw[es];rfl;grind;grind;rw[cdF,cdF,cdT,cdT,f104_eq t e.o e.off 1 oM,bnS];cases hs:spot t.objs e.o e.off 1;exact W 0 false 0 0 e.o e.off oM;obtain⟨y,hy,_⟩:=kr hs;rw[cdT,hy,bnS,bnS];refine(W 0 _ 0 0 e.o e.off oM).trans ?_;dsimp only;cases y.ptr<;>rfl;grind;rfl
theorem f106_eq(t:ao)(ent:Int):∀(n:Nat)(deep left:Int)(e:ah),1<=deep->deep<=65->66<n+deep->0<=left->left<=256->f106 (n+1) t ent e deep left=some (l7 (exF t.objs ent n deep left e))
 |0,deep,left,e,h0,h1,h2,_,_=>oM
 |n+1,deep,left,e,h0,h1,h2,h3,h4=>by
  refine f106s_eq (f106 (n+1)) t ent e deep left (exF t.objs ent n (deep+1)) (λl x hd a b=>?_) (λl x a b c=>p9 t.objs ent n (deep+1) l x a b c) h3 h4;rw[w64 oM oM];exact f106_eq t ent n (deep+1) l x oM oM oM a b
theorem f21_eq(t:ao)(a:Int):f21 t a=some (chk t a):=by unfold f21 chk;have hat:f51 t a=at1 t a:=rfl;rw[hat];cases h:at1 t a;grind [da,gX.2];obtain⟨y,hy,_⟩:=bJ (gX.1 h);grind
def ckQ(t:ao)(P:List bc)(x:bc):Bool:=(chk t x.at_&&(match P.getLast? with|none=>true|some y=>decide (y.at_<x.at_)))&& !(decide (x.kind<1)||decide (x.kind>5))
theorem yo{t:ao}{a:Int}(h:chk t a=true):0<=a:=by
 unfold chk at h;cases hx:idx t.insns a with
 |none=>rw[hx] at h;cases h
 |some y=>exact(oL hx).1
theorem ug(t:ao):∀(r P:List bc),ir (ckQ t) P r=jL t (match P.getLast? with|none=> -1|some y=>y.at_) r
 |[],P=>rfl
 |x::r,P=>by
  rw[ir,jL,ug t r (P++ [x]),List.getLast?_append,ckQ];cases hc:chk t x.at_;simp;have:=yo hc;grind
theorem f40_l3_eq(t:ao)(r:Option Bool)(hl:t.checks.length<9223372036854775808)(n:Nat)(hn:n=9223372036854775808):f40_l3 t (λ_=>r) n 0=bif jL t (-1) t.checks then r else some false:=by
 rw[show jL t (-1) t.checks=ir (ckQ t) [] t.checks from(ug t _ []).symm];refine qD t.checks (f40_l3 t λ_=>r) r (ckQ t) n hn hl (λm i hi=>?_) (λm=>by rw[f40_l3,gq,cdF]);rw[f40_l3,g' hi,cdT,bj hi,bnS,w1 hi hl,f21_eq,bnS];have hprev:i≠0->idx t.checks (i64.wrap ((i:Int) - 1))=(t.checks.take i).getLast? :=λh0=>by
  grind [w64,bj,min]
 generalize hx:t.checks[i]=x;unfold ckQ;by_cases h0:i=0;grind;rw[dcT (show((i:Nat):Int)>0 by omega),hprev h0];have hs:∃y,(t.checks.take i).getLast? =some y:=by grind
 obtain⟨y,hy⟩:=hs;rw[hy];dsimp only[cdT,bnS];have e:decide (y.at_>=x.at_)= !(decide (y.at_<x.at_)):=by grind
 grind
theorem f40_l1_eq(t:ao)(r:Option Bool)(hl:t.prots.length<9223372036854775808)(n:Nat)(hn:n=9223372036854775808):f40_l1 t (λ_=>r) n 0=bif t.prots.all (jA t) then r else some false:=by
 refine ic t.prots (f40_l1 t λ_=>r) r (jA t) n hn hl (λm i hi=>?_) (λm=>by rw[f40_l1,gq,cdF]);rw[f40_l1,g' hi,cdT,aR,bj hi,bnS,w1 hi hl];generalize t.prots[i]=x;unfold jA;cases hc:(decide (x.ceiling<0)||decide (x.ceiling>31))||decide ((x.barriers.length:Int)>8);have he:(x.barriers.length:Int)<=8:=by simp_all
 rw[cdF,ic x.barriers (f40_l2 t (λ_ _=>f40_l1 t (λ_=>r) m ((i+1:Nat):Int)) x) (f40_l1 t (λ_=>r) m ((i+1:Nat):Int)) (lk t x.barriers.length) _ rfl oM (λk j hj=>by
  rw[f40_l2,g' hj,cdT,bj hj,bnS,w1 hj oM,f106_eq t _ 66 1 256 _ oM oM oM oM oM,bnS];unfold lk l7;have hle:=p9 t.objs x.barriers.length 66 1 256 x.barriers[j] oM oM;cases hb:(exF t.objs x.barriers.length 66 1 256 x.barriers[j]).1;rfl;have:=hle hb;rw[cdT,dcF oM];rfl) (λk=>by rw[f40_l2,gq,cdF])]
 cases x.barriers.all (lk t x.barriers.length)<;>rfl;rfl
theorem f40_eq(t:ao)(hl:t.checks.length<9223372036854775808):f40 t=some (iq t&&jL t (-1) t.checks):=by unfold f40 iq;by_cases h:(t.prots.length:Int)<=32;rw[dcT h,dcF (show¬(t.prots.length:Int)>32 by omega),cdF,aR,aR,f40_l1_eq t _ oM _ rfl,f40_l3_eq t _ hl _ rfl];grind;grind
def r9(c:Int):Bool:=decide (c=68)||(decide (c=65)||(decide (c=66)||(decide (c=78)||(decide (c=77)||decide (c=84)))))
def mt:List Field->List (Int×Int)->Bool
 |[],[]=>true
 |f::F,(c,w)::L=>decide (f.name=c)&&(decide (f.lo=(f189 w).1)&&(decide (f.hi=(f189 w).2)&&(r9 c&&(F.all (λg=> !(decide (g.name=c)))&&mt F L))))
 |_,_=>false
def goF(x:aB):List Field->aB->Bool
 |[],c=>(decide (c.op=0))&&((decide (c.d=0))&&((decide (c.a=0))&&((decide (c.b=0))&&((decide (c.n=0))&&((decide (c.m=0))&&((decide (c.to=0))&&true))))))
 |f::F,c=> !((decide ((f161 x f.name)<f.lo))||(decide ((f161 x f.name)>f.hi)))&&goF x F (f162 c f.name 0)
theorem ge{c:Int}(h:r9 c=true):c=68\/c=65\/c=66\/c=78\/c=77\/c=84:=by unfold r9 at h;simpa only[Bool.or_eq_true,decide_eq_true_eq] using h
theorem f161_set{c:aB}{a b:Int}(ha:r9 a=true)(hb:r9 b=true)(h:b≠a):f161 (f162 c a 0) b=f161 c b:=by rcases ge ha with rfl|rfl|rfl|rfl|rfl|rfl<;>rcases ge hb with rfl|rfl|rfl|rfl|rfl|rfl<;>first|exact absurd rfl h|rfl
theorem f162_op(c:aB)(a:Int):(f162 c a 0).op=c.op:=by grind [f162,aR]
theorem pU:∀{F:List Field}{L:List (Int×Int)},mt F L=true->∀f∈F,r9 f.name=true
 |[],_,_,f,hf=>by cases hf
 |g::F,[],h,_,_=>by cases h
 |g::F,(c,w)::L,h,f,hf=>by
  simp only[mt,Bool.and_eq_true,decide_eq_true_eq] at h;rcases List.mem_cons.1 hf with rfl|hf
  grind;exact pU h.2.2.2.2.2 f hf
theorem tS(x:aB):∀(F:List Field)(L:List (Int×Int))(c:aB),mt F L=true->(∀f∈F,f161 c f.name=f161 x f.name)->c.op=0->goF x F c=fl L c.d c.a c.b c.n c.m c.to
 |[],[],c,_,_,h=>by rw[goF,fl,h];rfl
 |[],_::_,c,h,_,_=>by cases h
 |_::_,[],c,h,_,_=>by cases h
 |f::F,(ch,w)::L,c,h,hc,h0=>by
  have hs:=pU h;simp only[mt,Bool.and_eq_true,decide_eq_true_eq] at h;obtain⟨h1,h2,h3,h4,h5,h6⟩:=h;have hne:∀g∈F,g.name≠ch:=by simp_all
  have ih:=tS x F L (f162 c f.name 0) h6 (λg hg=>by
   rw[f161_set (hs f List.mem_cons_self) (hs g (List.mem_cons_of_mem _ hg)) (by rw[h1];exact hne g hg)];exact hc g (List.mem_cons_of_mem _ hg)) (by rw[f162_op];exact h0)
  rw[goF,ih,<-hc f List.mem_cons_self,h2,h3,h1];rcases ge h4 with rfl|rfl|rfl|rfl|rfl|rfl<;>rfl
theorem f108_l1_eq(x:aB)(r:Row×Bool)(E:Bool)(hl:r.1.fields.length<9223372036854775808):∀(n i:Nat)(z:Int)(c:aB),z=(i:Int)->i<=r.1.fields.length->r.1.fields.length<n+i->
  f108_l1 x r (λo d a b n m t=>some (((decide (o=0))&&((decide (d=0))&&((decide (a=0))&&((decide (b=0))&&((decide (n=0))&&((decide (m=0))&&((decide (t=0))&&true)))))))&&E)) n z c.op c.d c.a c.b c.n c.m c.to=some (goF x (r.1.fields.drop i) c&&E)
 |0,i,z,c,_,_,h=>oM
 |n+1,i,z,c,hz,hi,h=>by
  subst hz;rw[f108_l1];by_cases hh:i<r.1.fields.length;rw[bg hh,goF,g' hh,cdT,bj hh,bnS,w1 hh hl];have ih:=f108_l1_eq x r E hl n (i+1) _ (f162 c (r.1.fields[i]).name 0) rfl oM oM;have ec:aB.mk c.op c.d c.a c.b c.n c.m c.to=c:=rfl;rw[ec,ih];grind;have e:i=r.1.fields.length:=oM;subst e;rw[gq,cdF,List.drop_eq_nil_of_le (Nat.le_refl _)];rfl
theorem f160_l1_eq(o:Int)(k:Option (Row×Bool))(hf:∀r∈f190,r.op≠o):∀(n i:Nat)(z:Int),z=(i:Int)->i<=f190.length->f190.length<n+i->f160_l1 o (λ_=>k) n z=k
 |0,i,z,_,_,h=>oM
 |n+1,i,z,hz,hi,h=>by
  subst hz;have h57:f190.length=57:=rfl;rw[f160_l1];by_cases hh:i<f190.length;rw[g' hh,cdT,bj hh,bnS,dcF (hf _ (List.getElem_mem hh)),cdF,w1 hh oM];exact f160_l1_eq o k hf n (i+1) _ rfl oM oM;grind
theorem f190_ops:(f190.all λr=>decide (1<=r.op)&&decide (r.op<=57))=true:=by decide+kernel
theorem f160_ok:∀k,k<57->(match f160 ((k:Nat)+1:Int) with|some r=>r.2&&(Nat.blt r.1.fields.length 100&&mt r.1.fields (la ((k:Nat)+1:Int)))|none=>false)=true:=by decide+kernel
theorem f160_out{o:Int}(h:¬(1<=o/\o<=57)):f160 o=some ((Row.mk 0 ByteArray.empty []),false):=by unfold f160;refine f160_l1_eq o _ (λr hr he=>?_) _ 0 0 rfl (Nat.zero_le _) (by have h57:f190.length=57:=rfl;omega);grind [f190_ops]
theorem vQ:la 37=[(78,107),(77,115)]:=by decide+kernel
theorem f108_eq(x:aB):f108 x=some (iE x):=by
 unfold f108 iE;by_cases h:1<=x.op/\x.op<=57;obtain⟨k,hk⟩:∃k:Nat,x.op=(k:Int)+1:=⟨(x.op - 1).toNat,oM⟩;have hf:=f160_ok k oM;rw[<-hk] at hf;cases hr:f160 x.op with
 |none=>grind
 |some r=>
  rw[hr] at hf;simp only[Bool.and_eq_true] at hf;obtain⟨h2,h3,h4⟩:=hf;have hlen:r.1.fields.length<100:=by simp_all
  rw[bnS,h2,Bool.not_true,cdF,aR];have key:=f108_l1_eq x r (((!decide (x.op=27))||(decide (x.n<=x.m)))&&(((!decide (x.op=37))||(!decide (x.n=6)))||(decide (x.m=0)))) oM 9223372036854775808 0 0 (aB.mk 0 x.d x.a x.b x.n x.m x.to) rfl (Nat.zero_le _) oM;rw[List.drop_zero,tS x _ _ _ h4 (λf hf=>by
   have:=pU h4 f hf;rcases ge this with e|e|e|e|e|e<;>rw[e]<;>rfl) rfl] at key
  have e1:decide (1<=x.op)=true:=dcT h.1;have e2:decide (x.op<=57)=true:=dcT h.2;have e3:decide (x.n>x.m)= !(decide (x.n<=x.m)):=by grind
  rw[e1,e2,e3];refine Eq.trans ?_ (key.trans ?_);grind;dsimp only;congr 1;cases hfl:fl (la x.op) x.d x.a x.b x.n x.m x.to;simp;by_cases h37:x.op=37;have hn:6<=x.n/\x.n<=7:=by grind [vQ,fl,rng,f189]
  have:IntKind.u8.wrap x.n=x.n:=by rcases(show x.n=6\/x.n=7 by omega) with e|e<;>rw[e]<;>rfl
  grind;rw[dcF h37];cases decide (x.op=27)<;>cases decide (x.n<=x.m)<;>cases decide (x.n=6)<;>cases decide (x.m=0)<;>simp
 grind [f160_out]
end Go.Proofs.YtejcfgjpdocaoaaGreatDoor
