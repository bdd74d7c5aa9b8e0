/-
  Joins, loops and the ends of branches asz lemmas; what is shown in one way always is the default of an argument.
-/
import Derived.LaidMore
import Derived.OpenShut
import Derived.Stop.Joined
import Derived.ChangeArms
import Derived.ChangeSame
import Derived.Test.YtejcfgjpdocaoaaGreatDoorSb
set_option linter.all false
namespace Go.Sk
open Go.RowKit (Below)
section
variable{P:Program}{e:En}{ops:Array Oper}{rest:List Oper}{env:Env}{st:List AO}{R:Env->List AO->Prop}{κ:Ko}{x y:Code}
theorem Lv{a b:AV}(h:Le a b:=by
 repeat' (first|exact Le.refl _|exact Le.nil|exact Le.u _|exact Le.fs _|exact Les.refl _|exact trivial|refine aG ?_|refine bC ?_|refine Le.fnc ?_ ?_|refine⟨?_,?_⟩)):Le a b:=h
theorem Lw{a b:List AV}(h:Les a b:=by
 repeat' (first|exact Le.refl _|exact Le.nil|exact Le.u _|exact Le.fs _|exact Les.refl _|exact trivial|refine aG ?_|refine bC ?_|refine Le.fnc ?_ ?_|refine⟨?_,?_⟩)):Les a b:=h
theorem Rv{f:Func}{r:AV}(h:Res P f env st r:=by first|exact rs1 rfl (cO rfl)|exact rs2 rfl (cO rfl) (cO rfl)|exact av rfl|exact rs3 rfl (cO rfl) (cO rfl) (cO rfl)):Res P f env st r:=h
theorem Ci{c:Operand}{t:Bool}{β:Sort _}{a b z:β}(h:(bif t then a else b)=z)(hc:opv env c=some (.d (.v (.bool t))))(h1:a=z->WC P e x κ env st)(h0:b=z->WC P e y κ env st):WC P e (.cond c x y) κ env st:=by grind [iD]
theorem Ix{α β:Type}{E Q:α->List D}{L:List α}{i:Int}{F:α->Option β}{r:β}{T n d:Nat}{bb:Bool}{x ix:Operand}{xr:AV}{kk:IntKind}{ty:TypeId}{pos:String}{after:Array Edge}(h:Option.bind (idx L i) F=some r)(hT:aZ P T=some (n,bb))(hE:∀x,E x=Q x)(hx:opv env x=some xr)(hle:Le xr (.d (.sl (L.map E))))(hi:opv env ix=some (.d (.v (.int kk i))))(hd:Nat.ble (d+1) e.n=true)
  (k:∀x,idx L i=some x->F x=some r->WL P e ops rest ((d, .d (.pc (Q x)))::env) st R)(hn:∀x,(Q x).length=n:=by exact λ_=>rfl):WL P e ops (⟨some d, .indexAddr T x ix,ty,pos,after,none⟩::rest) env st R:=by
 obtain⟨z,hz,h⟩:=ab h;exact WL.qn (aM hT hx hle hi (aL hz) (bD hE hz) (hn z)) hd (k z hz h)
theorem FA{a p:Prop}(ha:a)(h:a->p:=by intro h;obtain rfl:=inS h;exact bU Rv Lv):p:=h ha
theorem FB{a p:Prop}(ha:a)(h:a->p:=by intro h;subst h;exact bU Rv Lv):p:=h ha
variable{dd:Nat}{ty:TypeId}{pos:String}{after:Array Edge}
theorem Bd{T:TypeId}{x:Operand}{r:AV}{ds:List D}(hx:opv env x=some r)(hk:r.okc=true)(hc:Les r.cells (ds.map .d))(hd:Nat.ble (dd+1) e.n=true)(h:WL P e ops rest ((dd, .d (.pc ds))::env) st R):WL P e ops (⟨some dd, .box T x,ty,pos,after,none⟩::rest) env st R:=WL.s (nm hx hk hc).does (Wt.none rfl) rfl hd h
theorem Bx{T:TypeId}{x:Operand}{r:AV}(hx:opv env x=some r)(hk:r.okc=true)(hd:Nat.ble (dd+1) e.n=true)(h:WL P e ops rest ((dd, .pt st.length 0)::env) (st++ [.row T r.cells]) R):WL P e ops (⟨some dd, .box T x,ty,pos,after,none⟩::rest) env st R:=WL.s (b_box hx hk).does (Wt.none rfl) rfl hd h
theorem Al{T:TypeId}{vs:List Value}(hz:aW P T=some vs)(hd:Nat.ble (dd+1) e.n=true)(h:WL P e ops rest ((dd, .pt st.length 0)::env) (st++ [.row T (vs.map λv=> .d (.v v))]) R):WL P e ops (⟨some dd, .alloc T,ty,pos,after,none⟩::rest) env st R:=WL.s (qY hz).does (Wt.none rfl) rfl hd h
theorem Tv{a b:List AO}(h:SLe a b:=by first|exact SLe.refl _|repeat' (first|exact rfl|exact Le.refl _|exact Le.nil|exact Le.u _|exact Le.fs _|exact Les.refl _|exact trivial|refine aG ?_|refine bC ?_|refine Le.fnc ?_ ?_|refine⟨?_,?_⟩)):SLe a b:=h
theorem Cb{b c:Bool}(h:b=c):D.v (Value.bool b)=D.v (Value.bool c):=by rw[h]
theorem Re{α:Type}{a:α}{l l':List α}(k:l=l'):a::l=a::l':=by rw[k]
theorem Kv{n:Nat}{l:List AO}(h:d3 n l=true:=by first|exact rfl|repeat' (first|exact rfl|refine da rfl ?_|refine da (om _ _ _ _ _ _) ?_|refine da (tq _ _ _ _ _ _) ?_|refine da (xD _ _ _ _ _ _ _ rfl) ?_)):d3 n l=true:=h
theorem Sb{a b:Env}(h:Sub a b:=by
 repeat' (first|exact Sub.nil _|refine Sub.cons rfl ?_ ?_|exact Le.refl _|exact Le.nil|exact Le.u _|exact Le.fs _|exact Les.refl _|exact trivial|refine aG ?_|refine bC ?_|refine Le.fnc ?_ ?_|refine⟨?_,?_⟩)):Sub a b:=h
section
universe uu
variable{β:Sort uu}{z:β}{n:Nat}{α0 α1 α2 α3 α4 α5 α6 α7 α8 α9 α10 α11 α12 α13 α14 α15 α16 α17 α18 α19 α20 α21 α22 α23 α24 α25 α26 α27 α28 α29 α30 α31 α32 α33 α34 α35:Type}
theorem Jn0(A:Env)(S:List AO){K:Unit->β}{F:(Unit->β)->β}(h:aq K F=z)(h1:∀k:Unit->β,F k=z->WC P e x (.lp (λu v=>k ()=z/\Sub (A) u/\SLe v (S)) κ) env st)(h2:K ()=z->WC P e y κ (A) (S)):WC P e (.seq x y) κ env st:=by refine bT _ (h1 K h) ?_;grind [WC.sub,WC.weak]
theorem En0{A:Env}{S:List AO}{k:Unit->β}(h:k ()=z)(h0:Sub (A) env:=by exact Sb)(h1:SLe st (S):=by exact Tv):WE P e .normal (.lp (λu v=>k ()=z/\Sub (A) u/\SLe v (S)) κ) env st:=ei ⟨h,h0,h1⟩
theorem Jn1(A:α0->Env)(S:α0->List AO){K:α0->β}{F:(α0->β)->β}(h:aq K F=z)(h1:∀k:α0->β,F k=z->WC P e x (.lp (λu v=>∃x0,k x0=z/\Sub (A x0) u/\SLe v (S x0)) κ) env st)(h2:∀x0,K x0=z->WC P e y κ (A x0) (S x0)):WC P e (.seq x y) κ env st:=by refine bT _ (h1 K h) ?_;grind [WC.sub,WC.weak]
theorem Ln1(A:α0->Env)(S:α0->List AO)(L:Nat->α0->β){N:Nat}{i0:α0}(h:L N i0=z)(hz:∀x0,L 0 x0=z->False)(hs':∀n x0,L (n+1) x0=z->WC P e x (.lp (λu v=>∃y,(∃x0,L y x0=z/\Sub (A x0) u/\SLe v (S x0))/\y<n+1) κ) (A x0) (S x0))(h0:Sub (A i0) env:=by exact Sb)(h1:SLe st (S i0):=by exact Tv):WC P e (.loop x) κ env st:=by
 refine bc (λn u v=>∃x0,L n x0=z/\Sub (A x0) u/\SLe v (S x0)) (λn=>n) N ⟨_,h,h0,h1⟩ ?_;rintro n u v ⟨x0,h,hs,hw⟩;rcases n with _|n
 simp_all;grind [WC.sub,WC.weak]
theorem En1{A:α0->Env}{S:α0->List AO}{k:α0->β}{i0:α0}(h:k i0=z)(h0:Sub (A i0) env:=by exact Sb)(h1:SLe st (S i0):=by exact Tv):WE P e .normal (.lp (λu v=>∃x0,k x0=z/\Sub (A x0) u/\SLe v (S x0)) κ) env st:=by grind [ei]
theorem Fn1{A:α0->Env}{S:α0->List AO}{L:Nat->α0->β}{i0:α0}(h:L n i0=z)(h0:Sub (A i0) env:=by exact Sb)(h1:SLe st (S i0):=by exact Tv):WE P e .normal (.lp (λu v=>∃y,(∃x0,L y x0=z/\Sub (A x0) u/\SLe v (S x0))/\y<n+1) κ) env st:=by grind [ei]
theorem Jn2(A:α0->α1->Env)(S:α0->α1->List AO){K:α0->α1->β}{F:(α0->α1->β)->β}(h:aq K F=z)(h1:∀k:α0->α1->β,F k=z->WC P e x (.lp (λu v=>∃x0 x1,k x0 x1=z/\Sub (A x0 x1) u/\SLe v (S x0 x1)) κ) env st)(h2:∀x0 x1,K x0 x1=z->WC P e y κ (A x0 x1) (S x0 x1)):WC P e (.seq x y) κ env st:=by refine bT _ (h1 K h) ?_;grind [WC.sub,WC.weak]
theorem Ln2(A:α0->α1->Env)(S:α0->α1->List AO)(L:Nat->α0->α1->β){N:Nat}{i0:α0}{i1:α1}(h:L N i0 i1=z)(hz:∀x0 x1,L 0 x0 x1=z->False)(hs':∀n x0 x1,L (n+1) x0 x1=z->WC P e x (.lp (λu v=>∃y,(∃x0 x1,L y x0 x1=z/\Sub (A x0 x1) u/\SLe v (S x0 x1))/\y<n+1) κ) (A x0 x1) (S x0 x1))(h0:Sub (A i0 i1) env:=by exact Sb)(h1:SLe st (S i0 i1):=by exact Tv):WC P e (.loop x) κ env st:=by
 refine bc (λn u v=>∃x0 x1,L n x0 x1=z/\Sub (A x0 x1) u/\SLe v (S x0 x1)) (λn=>n) N ⟨_,_,h,h0,h1⟩ ?_;rintro n u v ⟨x0,x1,h,hs,hw⟩;rcases n with _|n
 simp_all;grind [WC.sub,WC.weak]
theorem En2{A:α0->α1->Env}{S:α0->α1->List AO}{k:α0->α1->β}{i0:α0}{i1:α1}(h:k i0 i1=z)(h0:Sub (A i0 i1) env:=by exact Sb)(h1:SLe st (S i0 i1):=by exact Tv):WE P e .normal (.lp (λu v=>∃x0 x1,k x0 x1=z/\Sub (A x0 x1) u/\SLe v (S x0 x1)) κ) env st:=by grind [ei]
theorem Fn2{A:α0->α1->Env}{S:α0->α1->List AO}{L:Nat->α0->α1->β}{i0:α0}{i1:α1}(h:L n i0 i1=z)(h0:Sub (A i0 i1) env:=by exact Sb)(h1:SLe st (S i0 i1):=by exact Tv):WE P e .normal (.lp (λu v=>∃y,(∃x0 x1,L y x0 x1=z/\Sub (A x0 x1) u/\SLe v (S x0 x1))/\y<n+1) κ) env st:=by grind [ei]
theorem Jn3(A:α0->α1->α2->Env)(S:α0->α1->α2->List AO){K:α0->α1->α2->β}{F:(α0->α1->α2->β)->β}(h:aq K F=z)(h1:∀k:α0->α1->α2->β,F k=z->WC P e x (.lp (λu v=>∃x0 x1 x2,k x0 x1 x2=z/\Sub (A x0 x1 x2) u/\SLe v (S x0 x1 x2)) κ) env st)(h2:∀x0 x1 x2,K x0 x1 x2=z->WC P e y κ (A x0 x1 x2) (S x0 x1 x2)):WC P e (.seq x y) κ env st:=by refine bT _ (h1 K h) ?_;grind [WC.sub,WC.weak]
theorem En3{A:α0->α1->α2->Env}{S:α0->α1->α2->List AO}{k:α0->α1->α2->β}{i0:α0}{i1:α1}{i2:α2}(h:k i0 i1 i2=z)(h0:Sub (A i0 i1 i2) env:=by exact Sb)(h1:SLe st (S i0 i1 i2):=by exact Tv):WE P e .normal (.lp (λu v=>∃x0 x1 x2,k x0 x1 x2=z/\Sub (A x0 x1 x2) u/\SLe v (S x0 x1 x2)) κ) env st:=by grind [ei]
theorem Fn3{A:α0->α1->α2->Env}{S:α0->α1->α2->List AO}{L:Nat->α0->α1->α2->β}{i0:α0}{i1:α1}{i2:α2}(h:L n i0 i1 i2=z)(h0:Sub (A i0 i1 i2) env:=by exact Sb)(h1:SLe st (S i0 i1 i2):=by exact Tv):WE P e .normal (.lp (λu v=>∃y,(∃x0 x1 x2,L y x0 x1 x2=z/\Sub (A x0 x1 x2) u/\SLe v (S x0 x1 x2))/\y<n+1) κ) env st:=by grind [ei]
theorem Jn4(A:α0->α1->α2->α3->Env)(S:α0->α1->α2->α3->List AO){K:α0->α1->α2->α3->β}{F:(α0->α1->α2->α3->β)->β}(h:aq K F=z)(h1:∀k:α0->α1->α2->α3->β,F k=z->WC P e x (.lp (λu v=>∃x0 x1 x2 x3,k x0 x1 x2 x3=z/\Sub (A x0 x1 x2 x3) u/\SLe v (S x0 x1 x2 x3)) κ) env st)(h2:∀x0 x1 x2 x3,K x0 x1 x2 x3=z->WC P e y κ (A x0 x1 x2 x3) (S x0 x1 x2 x3)):WC P e (.seq x y) κ env st:=by refine bT _ (h1 K h) ?_;grind [WC.sub,WC.weak]
theorem Ln4(A:α0->α1->α2->α3->Env)(S:α0->α1->α2->α3->List AO)(L:Nat->α0->α1->α2->α3->β){N:Nat}{i0:α0}{i1:α1}{i2:α2}{i3:α3}(h:L N i0 i1 i2 i3=z)(hz:∀x0 x1 x2 x3,L 0 x0 x1 x2 x3=z->False)(hs':∀n x0 x1 x2 x3,L (n+1) x0 x1 x2 x3=z->WC P e x (.lp (λu v=>∃y,(∃x0 x1 x2 x3,L y x0 x1 x2 x3=z/\Sub (A x0 x1 x2 x3) u/\SLe v (S x0 x1 x2 x3))/\y<n+1) κ) (A x0 x1 x2 x3) (S x0 x1 x2 x3))(h0:Sub (A i0 i1 i2 i3) env:=by exact Sb)(h1:SLe st (S i0 i1 i2 i3):=by exact Tv):WC P e (.loop x) κ env st:=by
 refine bc (λn u v=>∃x0 x1 x2 x3,L n x0 x1 x2 x3=z/\Sub (A x0 x1 x2 x3) u/\SLe v (S x0 x1 x2 x3)) (λn=>n) N ⟨_,_,_,_,h,h0,h1⟩ ?_;rintro n u v ⟨x0,x1,x2,x3,h,hs,hw⟩;rcases n with _|n
 simp_all;grind [WC.sub,WC.weak]
theorem En4{A:α0->α1->α2->α3->Env}{S:α0->α1->α2->α3->List AO}{k:α0->α1->α2->α3->β}{i0:α0}{i1:α1}{i2:α2}{i3:α3}(h:k i0 i1 i2 i3=z)(h0:Sub (A i0 i1 i2 i3) env:=by exact Sb)(h1:SLe st (S i0 i1 i2 i3):=by exact Tv):WE P e .normal (.lp (λu v=>∃x0 x1 x2 x3,k x0 x1 x2 x3=z/\Sub (A x0 x1 x2 x3) u/\SLe v (S x0 x1 x2 x3)) κ) env st:=by grind [ei]
theorem Fn4{A:α0->α1->α2->α3->Env}{S:α0->α1->α2->α3->List AO}{L:Nat->α0->α1->α2->α3->β}{i0:α0}{i1:α1}{i2:α2}{i3:α3}(h:L n i0 i1 i2 i3=z)(h0:Sub (A i0 i1 i2 i3) env:=by exact Sb)(h1:SLe st (S i0 i1 i2 i3):=by exact Tv):WE P e .normal (.lp (λu v=>∃y,(∃x0 x1 x2 x3,L y x0 x1 x2 x3=z/\Sub (A x0 x1 x2 x3) u/\SLe v (S x0 x1 x2 x3))/\y<n+1) κ) env st:=by grind [ei]
theorem Jn5(A:α0->α1->α2->α3->α4->Env)(S:α0->α1->α2->α3->α4->List AO){K:α0->α1->α2->α3->α4->β}{F:(α0->α1->α2->α3->α4->β)->β}(h:aq K F=z)(h1:∀k:α0->α1->α2->α3->α4->β,F k=z->WC P e x (.lp (λu v=>∃x0 x1 x2 x3 x4,k x0 x1 x2 x3 x4=z/\Sub (A x0 x1 x2 x3 x4) u/\SLe v (S x0 x1 x2 x3 x4)) κ) env st)(h2:∀x0 x1 x2 x3 x4,K x0 x1 x2 x3 x4=z->WC P e y κ (A x0 x1 x2 x3 x4) (S x0 x1 x2 x3 x4)):WC P e (.seq x y) κ env st:=by refine bT _ (h1 K h) ?_;grind [WC.sub,WC.weak]
theorem En5{A:α0->α1->α2->α3->α4->Env}{S:α0->α1->α2->α3->α4->List AO}{k:α0->α1->α2->α3->α4->β}{i0:α0}{i1:α1}{i2:α2}{i3:α3}{i4:α4}(h:k i0 i1 i2 i3 i4=z)(h0:Sub (A i0 i1 i2 i3 i4) env:=by exact Sb)(h1:SLe st (S i0 i1 i2 i3 i4):=by exact Tv):WE P e .normal (.lp (λu v=>∃x0 x1 x2 x3 x4,k x0 x1 x2 x3 x4=z/\Sub (A x0 x1 x2 x3 x4) u/\SLe v (S x0 x1 x2 x3 x4)) κ) env st:=by grind [ei]
theorem En6{A:α0->α1->α2->α3->α4->α5->Env}{S:α0->α1->α2->α3->α4->α5->List AO}{k:α0->α1->α2->α3->α4->α5->β}{i0:α0}{i1:α1}{i2:α2}{i3:α3}{i4:α4}{i5:α5}(h:k i0 i1 i2 i3 i4 i5=z)(h0:Sub (A i0 i1 i2 i3 i4 i5) env:=by exact Sb)(h1:SLe st (S i0 i1 i2 i3 i4 i5):=by exact Tv):WE P e .normal (.lp (λu v=>∃x0 x1 x2 x3 x4 x5,k x0 x1 x2 x3 x4 x5=z/\Sub (A x0 x1 x2 x3 x4 x5) u/\SLe v (S x0 x1 x2 x3 x4 x5)) κ) env st:=by grind [ei]
theorem Ln7(A:α0->α1->α2->α3->α4->α5->α6->Env)(S:α0->α1->α2->α3->α4->α5->α6->List AO)(L:Nat->α0->α1->α2->α3->α4->α5->α6->β){N:Nat}{i0:α0}{i1:α1}{i2:α2}{i3:α3}{i4:α4}{i5:α5}{i6:α6}(h:L N i0 i1 i2 i3 i4 i5 i6=z)(hz:∀x0 x1 x2 x3 x4 x5 x6,L 0 x0 x1 x2 x3 x4 x5 x6=z->False)(hs':∀n x0 x1 x2 x3 x4 x5 x6,L (n+1) x0 x1 x2 x3 x4 x5 x6=z->WC P e x (.lp (λu v=>∃y,(∃x0 x1 x2 x3 x4 x5 x6,L y x0 x1 x2 x3 x4 x5 x6=z/\Sub (A x0 x1 x2 x3 x4 x5 x6) u/\SLe v (S x0 x1 x2 x3 x4 x5 x6))/\y<n+1) κ) (A x0 x1 x2 x3 x4 x5 x6) (S x0 x1 x2 x3 x4 x5 x6))(h0:Sub (A i0 i1 i2 i3 i4 i5 i6) env:=by exact Sb)(h1:SLe st (S i0 i1 i2 i3 i4 i5 i6):=by exact Tv):WC P e (.loop x) κ env st:=by
 refine bc (λn u v=>∃x0 x1 x2 x3 x4 x5 x6,L n x0 x1 x2 x3 x4 x5 x6=z/\Sub (A x0 x1 x2 x3 x4 x5 x6) u/\SLe v (S x0 x1 x2 x3 x4 x5 x6)) (λn=>n) N ⟨_,_,_,_,_,_,_,h,h0,h1⟩ ?_;rintro n u v ⟨x0,x1,x2,x3,x4,x5,x6,h,hs,hw⟩;rcases n with _|n
 simp_all;grind [WC.sub,WC.weak]
theorem Fn7{A:α0->α1->α2->α3->α4->α5->α6->Env}{S:α0->α1->α2->α3->α4->α5->α6->List AO}{L:Nat->α0->α1->α2->α3->α4->α5->α6->β}{i0:α0}{i1:α1}{i2:α2}{i3:α3}{i4:α4}{i5:α5}{i6:α6}(h:L n i0 i1 i2 i3 i4 i5 i6=z)(h0:Sub (A i0 i1 i2 i3 i4 i5 i6) env:=by exact Sb)(h1:SLe st (S i0 i1 i2 i3 i4 i5 i6):=by exact Tv):WE P e .normal (.lp (λu v=>∃y,(∃x0 x1 x2 x3 x4 x5 x6,L y x0 x1 x2 x3 x4 x5 x6=z/\Sub (A x0 x1 x2 x3 x4 x5 x6) u/\SLe v (S x0 x1 x2 x3 x4 x5 x6))/\y<n+1) κ) env st:=by grind [ei]
theorem Jn8(A:α0->α1->α2->α3->α4->α5->α6->α7->Env)(S:α0->α1->α2->α3->α4->α5->α6->α7->List AO){K:α0->α1->α2->α3->α4->α5->α6->α7->β}{F:(α0->α1->α2->α3->α4->α5->α6->α7->β)->β}(h:aq K F=z)(h1:∀k:α0->α1->α2->α3->α4->α5->α6->α7->β,F k=z->WC P e x (.lp (λu v=>∃x0 x1 x2 x3 x4 x5 x6 x7,k x0 x1 x2 x3 x4 x5 x6 x7=z/\Sub (A x0 x1 x2 x3 x4 x5 x6 x7) u/\SLe v (S x0 x1 x2 x3 x4 x5 x6 x7)) κ) env st)(h2:∀x0 x1 x2 x3 x4 x5 x6 x7,K x0 x1 x2 x3 x4 x5 x6 x7=z->WC P e y κ (A x0 x1 x2 x3 x4 x5 x6 x7) (S x0 x1 x2 x3 x4 x5 x6 x7)):WC P e (.seq x y) κ env st:=by refine bT _ (h1 K h) ?_;grind [WC.sub,WC.weak]
theorem Jn13(A:α0->α1->α2->α3->α4->α5->α6->α7->α8->α9->α10->α11->α12->Env)(S:α0->α1->α2->α3->α4->α5->α6->α7->α8->α9->α10->α11->α12->List AO){K:α0->α1->α2->α3->α4->α5->α6->α7->α8->α9->α10->α11->α12->β}{F:(α0->α1->α2->α3->α4->α5->α6->α7->α8->α9->α10->α11->α12->β)->β}(h:aq K F=z)(h1:∀k:α0->α1->α2->α3->α4->α5->α6->α7->α8->α9->α10->α11->α12->β,F k=z->WC P e x (.lp (λu v=>∃x0 x1 x2 x3 x4 x5 x6 x7 x8 x9 x10 x11 x12,k x0 x1 x2 x3 x4 x5 x6 x7 x8 x9 x10 x11 x12=z/\Sub (A x0 x1 x2 x3 x4 x5 x6 x7 x8 x9 x10 x11 x12) u/\SLe v (S x0 x1 x2 x3 x4 x5 x6 x7 x8 x9 x10 x11 x12)) κ) env st)(h2:∀x0 x1 x2 x3 x4 x5 x6 x7 x8 x9 x10 x11 x12,K x0 x1 x2 x3 x4 x5 x6 x7 x8 x9 x10 x11 x12=z->WC P e y κ (A x0 x1 x2 x3 x4 x5 x6 x7 x8 x9 x10 x11 x12) (S x0 x1 x2 x3 x4 x5 x6 x7 x8 x9 x10 x11 x12)):WC P e (.seq x y) κ env st:=by refine bT _ (h1 K h) ?_;grind [WC.sub,WC.weak]
theorem Ln14(A:α0->α1->α2->α3->α4->α5->α6->α7->α8->α9->α10->α11->α12->α13->Env)(S:α0->α1->α2->α3->α4->α5->α6->α7->α8->α9->α10->α11->α12->α13->List AO)(L:Nat->α0->α1->α2->α3->α4->α5->α6->α7->α8->α9->α10->α11->α12->α13->β){N:Nat}{i0:α0}{i1:α1}{i2:α2}{i3:α3}{i4:α4}{i5:α5}{i6:α6}{i7:α7}{i8:α8}{i9:α9}{i10:α10}{i11:α11}{i12:α12}{i13:α13}(h:L N i0 i1 i2 i3 i4 i5 i6 i7 i8 i9 i10 i11 i12 i13=z)(hz:∀x0 x1 x2 x3 x4 x5 x6 x7 x8 x9 x10 x11 x12 x13,L 0 x0 x1 x2 x3 x4 x5 x6 x7 x8 x9 x10 x11 x12 x13=z->False)(hs':∀n x0 x1 x2 x3 x4 x5 x6 x7 x8 x9 x10 x11 x12 x13,L (n+1) x0 x1 x2 x3 x4 x5 x6 x7 x8 x9 x10 x11 x12 x13=z->WC P e x (.lp (λu v=>∃y,(∃x0 x1 x2 x3 x4 x5 x6 x7 x8 x9 x10 x11 x12 x13,L y x0 x1 x2 x3 x4 x5 x6 x7 x8 x9 x10 x11 x12 x13=z/\Sub (A x0 x1 x2 x3 x4 x5 x6 x7 x8 x9 x10 x11 x12 x13) u/\SLe v (S x0 x1 x2 x3 x4 x5 x6 x7 x8 x9 x10 x11 x12 x13))/\y<n+1) κ) (A x0 x1 x2 x3 x4 x5 x6 x7 x8 x9 x10 x11 x12 x13) (S x0 x1 x2 x3 x4 x5 x6 x7 x8 x9 x10 x11 x12 x13))(h0:Sub (A i0 i1 i2 i3 i4 i5 i6 i7 i8 i9 i10 i11 i12 i13) env:=by exact Sb)(h1:SLe st (S i0 i1 i2 i3 i4 i5 i6 i7 i8 i9 i10 i11 i12 i13):=by exact Tv):WC P e (.loop x) κ env st:=by
 refine bc (λn u v=>∃x0 x1 x2 x3 x4 x5 x6 x7 x8 x9 x10 x11 x12 x13,L n x0 x1 x2 x3 x4 x5 x6 x7 x8 x9 x10 x11 x12 x13=z/\Sub (A x0 x1 x2 x3 x4 x5 x6 x7 x8 x9 x10 x11 x12 x13) u/\SLe v (S x0 x1 x2 x3 x4 x5 x6 x7 x8 x9 x10 x11 x12 x13)) (λn=>n) N ⟨_,_,_,_,_,_,_,_,_,_,_,_,_,_,h,h0,h1⟩ ?_;rintro n u v ⟨x0,x1,x2,x3,x4,x5,x6,x7,x8,x9,x10,x11,x12,x13,h,hs,hw⟩;rcases n with _|n
 simp_all;grind [WC.sub,WC.weak]
end
theorem RO{id:Nat}{l:List Oper}(rs:List AV)(tc:List (List Nat))(es:List Nat)(L:List (List AO))(plan:List (List Nat×List Nat×List Nat))(hm:P.follows .mixedOrders=true)(hok:jY l tc es plan=true)(hrs:Nat.beq rs.length l.length=true)(hes:es.all (λy=>Nat.blt y l.length)=true)
  (hobs:Obs P e l rs env (λc=>List.getD (st::L) c []) es 0 l plan)(h:WE P e .normal κ (FL env (λk=>Nat.blt k l.length) (bO l rs 0)) (List.getD (st::L) es.length []))(hnf:bP l=true:=by kernel_rfl):WC P e (.region id l.toArray true) κ env st:=by grind [gR]
def xK(x:Nat):List Nat->List Nat
 |[]=> [x]
 |y::l=>bif Nat.beq x y then y::l else y::xK x l
def tcF(l:List Oper):List (List Nat):=l.foldl (λacc o=>acc++ [o.after.toList.foldl (λr e=>bif Region.binds .any e then(acc.getD e.on []).foldl (λr x=>xK x r) (xK e.on r) else r) []]) []
theorem RT{id:Nat}{l:List Oper}(rs:List AV)(es:List Nat)(L:List (List AO))(plan:List (List Nat×List Nat×List Nat))(hm:P.follows .mixedOrders=true)(hok:jY l (tcF l) es plan=true)(hrs:Nat.beq rs.length l.length=true)(hes:es.all (λy=>Nat.blt y l.length)=true)
  (hobs:Obs P e l rs env (λc=>List.getD (st::L) c []) es 0 l plan)(h:WE P e .normal κ (FL env (λk=>Nat.blt k l.length) (bO l rs 0)) (List.getD (st::L) es.length []))(hnf:bP l=true:=by kernel_rfl):WC P e (.region id l.toArray true) κ env st:=by grind [RO,tcF]
theorem O1 [T:Tys P]{l:List Oper}{rs:List AV}{base:Env}{sts:Nat->List AO}{k d c:Nat}{o:Oper}{pk bk:List Nat}{up:Bool}{r:AV}(hd:o.dst=some d)(h:∀F:Env,iH T.t e.n l.toArray (sts c) (dq l rs base pk bk++F) o=some ((d,r)::(dq l rs base pk bk++F)))(hr:rs[k]? =some r)(hu:up=false):ObC P e l rs base sts k o pk bk up [c]:=
 ⟨λF=>gh T.h (h F) (fw hd hr (by rw[hu];rfl)),trivial⟩
theorem O2 [T:Tys P]{l:List Oper}{rs:List AV}{base:Env}{sts:Nat->List AO}{k d c c':Nat}{o:Oper}{pk bk:List Nat}{r:AV}(hd:o.dst=some d)(h:∀F:Env,iH T.t e.n l.toArray (sts c) (dq l rs base pk bk++F) o=some ((d,r)::(dq l rs base pk bk++F)))(hr:rs[k]? =some r)(hu:c'=c):Ob P e l rs base sts k o pk bk c c':=
 λF=>gh T.h (h F) (fw hd hr (by rw[hu]))
def u0{α:Type}:List α->Option (List α)
 |[]=>some []
 |a::l=>match u0 l with
  |some l'=>some (a::l')
  |none=>none
theorem qu{α:Type}:∀{l l':List α},u0 l=some l'->l=l'
 |[],l',h=>inS h
 |a::l,l',h=>by
  dsimp only[u0] at h;split at h;rename_i hl;rw[qu hl];exact inS h;cases h
def xA:AO->Option AO
 | .row T cs=>match u0 cs with
  |some c=>some (.row T c)
  |none=>none
 |o=>some o
theorem uZ{o o':AO}(h:xA o=some o'):o=o':=by
 cases o with
 |row T cs=>dsimp only[xA] at h;split at h;rename_i hl;rw[qu hl];exact inS h;cases h
 |_=>exact inS h
def uY:List AO->Option (List AO)
 |[]=>some []
 |a::l=>match xA a,uY l with
  |some a',some l'=>some (a'::l')
  |_,_=>none
theorem qt:∀{l l':List AO},uY l=some l'->l=l'
 |[],l',h=>inS h
 |a::l,l',h=>by
  dsimp only[uY] at h;split at h;rename_i ha hl;rw[uZ ha,qt hl];exact inS h;cases h
theorem St{st':List AO}(h:uY st=some st')(k:WL P e ops rest env st' R):WL P e ops rest env st R:=WL.st (qt h) k
end
def ObX(P:Program)(e:En)(l:List Oper)(rs:List AV)(base:Env)(s s':List AO->Prop)(k:Nat)(o:Oper)(pk bk:List Nat):Prop:=
 ∀(F:Env)(st:List AO),s st->WL P e l.toArray [o] (dq l rs base pk bk++F) st λenv' st'=>s' st'/\∃pre,env'=pre++(dq l rs base pk bk++F)/\
  (∀t x,pre.get t=some x->o.dst=some t)/\∀d r,o.dst=some d->rs[k]? =some r->pre.get d=some r
def wv(P:Program)(e:En)(l:List Oper)(rs:List AV)(base:Env)(sts:List Bool->List AO->Prop)(es:List Nat)(k:Nat)(o:Oper)(pk bk:List Nat):List (List Bool)->Prop
 |[]=>True
 |c::cs=>ObX P e l rs base (sts c) (sts (upB k es c)) k o pk bk/\wv P e l rs base sts es k o pk bk cs
def sj(P:Program)(e:En)(l:List Oper)(rs:List AV)(base:Env)(sts:List Bool->List AO->Prop)(es:List Nat):Nat->List Oper->List (List Nat×List Nat×List (List Bool))->Prop
 |k,o::ol,p::ps=>wv P e l rs base sts es k o p.1 p.2.1 p.2.2/\sj P e l rs base sts es (k+1) ol ps
 |_,_,_=>True
theorem o4{P e l rs base sts es k o pk bk}:∀{cs:List (List Bool)},wv P e l rs base sts es k o pk bk cs->∀c∈cs,ObX P e l rs base (sts c) (sts (upB k es c)) k o pk bk
 |c::cs,h,c',hc=>by
  rcases List.mem_cons.1 hc with rfl|hc
  exact h.1;exact o4 h.2 c' hc
theorem o3{P e l rs base sts es}:∀{ol:List Oper}{ps:List (List Nat×List Nat×List (List Bool))}{k j:Nat}{o:Oper}{p:List Nat×List Nat×List (List Bool)},sj P e l rs base sts es k ol ps->ol[j]? =some o->ps[j]? =some p->wv P e l rs base sts es (k+j) o p.1 p.2.1 p.2.2
 |o0::ol,p0::ps,k,0,o,p,h,h1,h2=>by
  simp only[List.getElem?_cons_zero,ay] at h1 h2;subst h1;subst h2;exact h.1
 |o0::ol,p0::ps,k,j+1,o,p,h,h1,h2=>by
  have:=o3 h.2 (by simpa using h1:ol[j]? =some o) (by simpa using h2:ps[j]? =some p);grind
 |[],_,_,_,_,_,_,h1,_=>by simp at h1
 |_::_,[],_,_,_,_,_,_,h2=>by simp at h2
section
variable{P:Program}{e:En}{l:List Oper}{rs:List AV}{base:Env}{sts:List Bool->List AO->Prop}{es:List Nat}
def AtX(e:En)(l:List Oper)(rs:List AV)(base:Env)(sts:List Bool->List AO->Prop)(es:List Nat)(L:Nat->Bool)(a:Act)(w:World):Prop:=
 ∃m φ st,sts (es.map L) st/\Inv e m φ (FL base L (bO l rs 0)) st a w
theorem sg{Q':Exit->Act->World->Prop}(hnf:bP l=true){tc:List (List Nat)}{plan:List (List Nat×List Nat×List (List Bool))}(hok:jH l tc es plan=true)(hrs:rs.length=l.length)(hobs:sj P e l rs base sts es 0 l plan)
  {L L':Nat->Bool}{k:Nat}{o:Oper}(ho:l[k]? =some o)(hd:pR l L)(hLn:∀y,L y=true->y<l.length)(hk:L k=false)(hpre:∀e∈o.after,Region.binds .any e=true->L e.on=true)
  (hL:∀j,j≠k->L' j=L j)(hk':L' k=true){a:Act}{w:World}(hat:AtX e l rs base sts es L a w):
  wpOpIn (EF e.rd) 0 P l.toArray Q' k (λa' w'=>AtX e l rs base sts es L' a' w') a w:=by
 obtain⟨m,φ,st,hst,hi⟩:=hat
 simp only[jH,Bool.and_eq_true] at hok;obtain⟨⟨⟨htc,hnd⟩,hpl⟩,hall⟩:=hok;have hkl:k<l.length:=by grind
 have h1:=List.all_eq_true.1 hall k (List.mem_range.2 hkl);cases hp:plan[k]? with
 |none=>simp_all
 |some p=>
  obtain⟨pk,bk,cs⟩:=p;simp only[hp,Bool.and_eq_true] at h1;obtain⟨⟨hpk,hbk⟩,hcs⟩:=h1;have hobk:=o3 hobs ho hp;rw[Nat.zero_add] at hobk;have htck:=fm htc hd k o ho hpre;have htcl:∀(y:Nat),L y=true->k∉tc.getD y []:=λy hy hm=>by
   have hyl:=hLn y hy;have hoy:l[y]? =some l[y]:=by simp_all
   have:=fm htc hd y _ hoy (λe' he' hb=>hd y _ hoy hy e' he' hb) k hm;simp_all
  have hc:es.map L∈cs:=by
   have h2:=List.all_eq_true.1 hcs (es.map L) (ob _ (List.length_map _));simp only[Bool.or_eq_true] at h2;rcases h2 with h2|h2
   grind;obtain⟨⟨y,b⟩,hy,h3⟩:=List.any_eq_true.1 h2;obtain⟨hye,rfl⟩:=eY hy;simp only[Bool.or_eq_true,Bool.and_eq_true,Bool.not_eq_true'] at h3;rcases h3 with(⟨hL,h3|h3⟩|⟨hL,h3⟩)|⟨hL,h3⟩
   grind [nbE];grind;grind;obtain⟨⟨z,b⟩,hz,h4⟩:=List.any_eq_true.1 h3;obtain⟨_,rfl⟩:=eY hz;simp only[Bool.and_eq_true,Bool.not_eq_true'] at h4;have hyl:=hLn y hL;have hoy:l[y]? =some l[y]:=by grind
   have:=fm htc hd y _ hoy (λe' he' hb=>hd y _ hoy hL e' he' hb) z (by simpa using h4.2);grind
  have hob:=o4 hobk _ hc;have hcnt:es.map L'=upB k es (es.map L):=by rw[qc];apply List.map_congr_left;intro y _;by_cases hyk:y=k;subst hyk;simp[hk'];grind [nbE]
  have hreg:=gH (rs:=rs) (k:=0) (ej hnd);have regk:∀(j t:Nat)(x:AV),(j,t,x)∈bO l rs 0->∃o',l[j]? =some o'/\o'.dst=some t/\rs[j]? =some x:=λj t x hm=>by
   obtain⟨_,o',h1,h2,h3⟩:=jt hm;grind
  have hek:∀t x,(dq l rs base pk bk).get t=some x->(FL base L (bO l rs 0)).get t=some x:=λt x hx=>by
   rcases km hx with⟨j,hj,hm⟩|⟨hm,hb⟩
   grind [ln];grind [nz,nbE]
  have hsub:Sub (dq l rs base pk bk++FL base L (bO l rs 0)) (FL base L (bO l rs 0)):=λt x hx=>by
   grind [Env.get_append,dq,Le.refl]
  refine kx hnf ho (hob (FL base L (bO l rs 0)) st hst) (hi.sub hsub) ?_;rintro a' w' env' st' m' φ' ⟨hst',pre,rfl,hp1,hp2⟩ hi';refine⟨m',φ',st',by rw[hcnt];exact hst',?_⟩;refine hi'.sub (λt x hx=>?_);rw[Env.get_append,Env.get_append];cases hpt:pre.get t with
  |some y=>
   have hdt:=hp1 t y hpt;cases hrk:rs[k]? with
   |none=>exact absurd (List.getElem?_eq_none_iff.1 hrk) oM
   |some r=>have h2:=hp2 t r hdt hrk;rw[hpt] at h2;simp only[ay] at h2;subst h2;have h3:(FL base L' (bO l rs 0)).get t=some y:=ln hreg.1 (by simpa using gI (k:=0) ho hdt hrk) hk';grind [Le.refl]
  |none=>
   have h3:(FL base L' (bO l rs 0)).get t=(FL base L (bO l rs 0)).get t:=ny hL (λr hr=>by
    obtain⟨o',h2,h3,h4⟩:=regk k t r hr;rw[ho] at h2;simp only[ay] at h2;subst h2;have:=hp2 t r h3 h4;rw[hpt] at this;cases this)
   grind [dq,Le.refl]
theorem uo(hnf:bP l=true){tc:List (List Nat)}{plan:List (List Nat×List Nat×List (List Bool))}{Q:Exit->Act->World->Prop}(hok:jH l tc es plan=true)(hrs:rs.length=l.length)(hobs:sj P e l rs base sts es 0 l plan)
  (hQ:∀a w,AtX e l rs base sts es (λk=>Nat.blt k l.length) a w->Q .normal a w):
  ∀(f:Nat)(listed:Array Bool)(a:Act)(w:World),listed.size=l.length->pR l (Lof listed)->listed.toList.count false<=f->AtX e l rs base sts es (Lof listed) a w->wpAnyIn (EF e.rd) 0 P .any l.toArray Q f listed a w:=by
 have htc:sO l tc=true:=by grind [jH]
 have rdy:∀(listed:Array Bool)(i:Nat),listed.size=l.length->i∈Region.ready .any l.toArray listed->∃o,l[i]? =some o/\Lof listed i=false/\listed[i]? =some false/\∀e∈o.after,Region.binds .any e=true->Lof listed e.on=true:=by
  intro listed i hsz hi;obtain⟨h0,o,ho,hall⟩:=mem_ready.1 hi;have hil:i<listed.size:=by grind
  simp_all [Lof]
 have full:∀(listed:Array Bool),listed.size=l.length->Region.ready .any l.toArray listed=[]->Lof listed=λk=>Nat.blt k l.length:=by
  intro listed hsz hr;have key:∀k,k<l.length->Lof listed k=true:=by
   intro k;induction k using Nat.strongRecOn with
   |_ k ih=>
    intro hk;cases hLk:Lof listed k with
    |true=>rfl
    |false=>
     exfalso;have hok':l[k]? =some l[k]:=by simp_all
     have:k∈Region.ready .any l.toArray listed:=by
      refine mem_ready.2 ⟨?_,l[k],by simp[hk],λe he hb=>?_⟩;grind [Lof];have h1:=List.all_eq_true.1 htc k (List.mem_range.2 hk);simp only[hok',Bool.and_eq_true] at h1;have h2:=List.all_eq_true.1 h1.1 e (Array.mem_toList_iff.2 he);simp only[hb,Bool.not_true,Bool.false_or] at h2;have hlt:e.on<k:=by simp_all
      exact ih e.on hlt oM
     simp_all
  grind [Nat.blt_eq,Lof]
 intro f;induction f with
 |zero=>
  intro listed a w hsz hdn hcn hat
  have hr:Region.ready .any l.toArray listed=[]:=by
   cases hr:Region.ready .any l.toArray listed with
   |nil=>rfl
   |cons i r=>
    obtain⟨o,_,_,h1,_⟩:=rdy listed i hsz (by rw[hr];exact List.mem_cons_self);have:false∈listed.toList:=by grind
    grind
  exact⟨hr,hQ a w (full listed hsz hr▸hat)⟩
 |succ f ih=>
  intro listed a w hsz hdn hcn hat
  refine⟨λhr=>hQ a w (full listed hsz hr▸hat),λi hi=>?_⟩;obtain⟨o,ho,hLi,hli,hpre⟩:=rdy listed i hsz hi;have hil:i<listed.size:=by grind
  have hother:∀j,j≠i->Lof (listed.setIfInBounds i true) j=Lof listed j:=by simp_all [Lof,Ne.symm]
  have hself:Lof (listed.setIfInBounds i true) i=true:=by simp_all [Lof]
  have hstep:=sg (Q':=Q) hnf (L':=Lof (listed.setIfInBounds i true)) hok hrs hobs ho hdn (λy hy=>by
   rcases Nat.lt_or_ge y l.length with h|h
   exact h;simp[Lof,Array.getD,Nat.not_lt.2 (by omega:listed.size<=y)] at hy) hLi hpre hother hself hat
  refine wpOpIn_mono (λa' w' hat'=>ih _ a' w' (by simpa using hsz) ?_ ?_ hat') hstep;intro k ok hk hLk e he hb;by_cases hki:k=i;subst hki;rw[ho] at hk;simp only[ay] at hk;subst hk;have:=hpre e he hb;by_cases hei:e.on=k;rw[hei];exact hself;rw[hother _ hei];exact this;rw[hother k hki] at hLk;have:=hdn k ok hk hLk e he hb;by_cases hei:e.on=i;rw[hei];exact hself;rw[hother _ hei];exact this;have:=mi (l:=listed.toList) (i:=i) (by simpa using hli);rw[Array.toList_setIfInBounds];omega
theorem kB{k:Ko}{env:Env}{st:List AO}{id:Nat}(rs:List AV)(tc:List (List Nat))(es:List Nat){ι:Type}(x0:ι)(sts:ι->List Bool->List AO)(plan:List (List Nat×List Nat×List (List Bool)))(hm:P.follows .mixedOrders=true)
  (hok:jH l tc es plan=true)(hrs:Nat.beq rs.length l.length=true)(hes:es.all (λy=>Nat.blt y l.length)=true)(hst:sts x0 (List.replicate es.length false)=st)(hobs:sj P e l rs env (λc s=>∃x,s=sts x c) es 0 l plan)
  (h:∀x,WE P e .normal k (FL env (λk=>Nat.blt k l.length) (bO l rs 0)) (sts x (List.replicate es.length true)))(hnf:bP l=true:=by kernel_rfl):WC P e (.region id l.toArray true) k env st:=λm φ a w hi=>by
 have hQ:∀a' w',AtX e l rs env (λc s=>∃x,s=sts x c) es (λk=>Nat.blt k l.length) a' w'->k.den P e .normal a' w':=λa' w' ⟨m',φ',st',⟨x,hx⟩,hi'⟩=>by
  rw[od λy hy=>List.all_eq_true.1 hes y hy] at hx;subst hx;exact h x m' φ' a' w' hi'
 have hz:∀j,Lof (Array.replicate l.toArray.size false) j=false:=λj=>by simp[Lof,Array.getD]
 have hdn:pR l (Lof (Array.replicate l.toArray.size false)):=λk o _ hL=>by rw[hz] at hL;cases hL
 have hat:AtX e l rs env (λc s=>∃x,s=sts x c) es (Lof (Array.replicate l.toArray.size false)) a { w with drawn:=w.drawn+1 }:=by
  have hc:es.map (Lof (Array.replicate l.toArray.size false))=List.replicate es.length false:=l9 hz;have hf:∀reg:List (Nat×Nat×AV),FL env (Lof (Array.replicate l.toArray.size false)) reg=env:=by
   intro reg;induction reg with
   |nil=>rfl
   |cons p reg ih=>grind [FL]
  refine⟨m,φ,st,⟨x0,by rw[hc,hst]⟩,?_⟩;rw[hf];exact hi.below ((Below.refl _ _).drew) (hi.env.mono (Pre.refl m) (Fz.refl φ w)) hi.sz rfl
 grind [wpIn_region_any,uo,nbE]
end
theorem Ox{P:Program}{e:En}{l:List Oper}{rs:List AV}{base:Env}{ι:Type}{sts:ι->List Bool->List AO}{c c':List Bool}{k:Nat}{o:Oper}{pk bk:List Nat}
  (h:∀x,ObT P e l rs base (sts x c) (sts x c') k o pk bk):ObX P e l rs base (λs=>∃x,s=sts x c) (λs=>∃x,s=sts x c') k o pk bk:=λF st ⟨x,hx⟩=>by
 subst hx;intro m φ a w hi;refine dj (P:=P) (l2:=[]) (λy a' w' hy=>⟨hy.1,?_⟩) [o] a w (h x F m φ a w hi);obtain⟨_,env',st',m',φ',⟨h1,h2⟩,h3⟩:=hy;exact⟨rfl,env',st',m',φ',⟨⟨x,h1⟩,h2⟩,h3⟩
theorem Oy{P:Program}{e:En}{l:List Oper}{rs:List AV}{base:Env}{ι:Type}{sts:ι->List Bool->List AO}{c:List Bool}{s':List AO->Prop}{k:Nat}{o:Oper}{pk bk:List Nat}
  (h:∀x (F:Env),WL P e l.toArray [o] (dq l rs base pk bk++F) (sts x c) λenv' st'=>s' st'/\∃pre,env'=pre++(dq l rs base pk bk++F)/\(∀t x,pre.get t=some x->o.dst=some t)/\∀d r,o.dst=some d->rs[k]? =some r->pre.get d=some r):ObX P e l rs base (λs=>∃x,s=sts x c) s' k o pk bk:=λF st ⟨x,hx⟩=>by
 simp_all
theorem Zx{P:Program}{e:En}{rs:List AV}{ι:Type}{sts:ι->List AO}{ops:Array Oper}{env:Env}{st':List AO}{o:Oper}{d:Nat}{r:AV}{k:Nat}(x:ι)(hd:o.dst=some d)(hr:rs[k]? =some r)(hst:st'=sts x):
  WL P e ops [] ((d,r)::env) st' (λenv' st''=>(∃x,st''=sts x)/\∃pre,env'=pre++env/\(∀t x,pre.get t=some x->o.dst=some t)/\∀d' r',o.dst=some d'->rs[k]? =some r'->pre.get d'=some r'):=
 WL.nil ⟨⟨x,hst⟩,[(d,r)],rfl,λt x hx=>by
  rw[bi] at hx;split at hx;rename_i h;rw[h];exact hd;simp[Env.get] at hx,λd' r' hd' hr'=>by
  rw[hd] at hd';rw[hr] at hr';simp only[ay] at hd' hr';subst hd';subst hr';simp[bi]⟩
theorem O3{P:Program}{e:En}[T:Tys P]{l:List Oper}{rs:List AV}{base:Env}{s s':List AO}{k d:Nat}{o:Oper}{pk bk:List Nat}{r:AV}(hd:o.dst=some d)(h:∀F:Env,iH T.t e.n l.toArray s (dq l rs base pk bk++F) o=some ((d,r)::(dq l rs base pk bk++F)))(hr:rs[k]? =some r)(hu:s'=s):ObT P e l rs base s s' k o pk bk:=
 λF=>gh T.h (h F) (fw hd hr (by rw[hu]))
def bx{ι:Type}(S:ι->List AO)(st:List AO)(x:ι)(c:List Bool):List AO:=bif c.headD false then S x else st
theorem R1x{P:Program}{e:En}{l:List Oper}{κ:Ko}{env:Env}{st:List AO}{id:Nat}(rs:List AV)(e1:Nat){ι:Type}(x0:ι)(S:ι->List AO)(plan:List (List Nat×List Nat×List (List Bool)))(hm:P.follows .mixedOrders=true)
  (hok:jH l (tcF l) [e1] plan=true)(hrs:Nat.beq rs.length l.length=true)(hes:[e1].all (λy=>Nat.blt y l.length)=true)
  (hobs:sj P e l rs env (λc s=>∃x,s=bx S st x c) [e1] 0 l plan)(h:∀x,WE P e .normal κ (FL env (λk=>Nat.blt k l.length) (bO l rs 0)) (S x))(hnf:bP l=true:=by kernel_rfl):WC P e (.region id l.toArray true) κ env st:=
 kB rs (tcF l) [e1] x0 (bx S st) plan hm hok hrs hes rfl hobs h hnf
section
variable{P:Program}{e:En}{ops:Array Oper}{rest:List Oper}{o:Oper}{d:Nat}{env:Env}{st:List AO}{R:Env->List AO->Prop}
theorem wx{js:List Nat}{T k v:Nat}{α:Type}{E:α->List D}{L:List α}:some (AO.os T k v (L.map (bg E)))=some (AO.ren js (.os T k v (L.map (bg E)))):=congrArg some (pu _ _ _ _ _ _).symm
theorem aN{f:FuncId}{c:Call}{x:Operand}{first caps asz as0:List AV}{st0 L L':List AO}{a a':AV}(js:List Nat)(hc:Ctr P f as0 st0 (bH st0.length λr' new=>r'=a/\new=L))
  (k:WL P e ops rest ((d,a')::env) (ct js L' st) R)
  (hop:o.op= .call c:=by exact rfl)(hx:c.callee= .value x:=by exact rfl)
  (hf:opv env x=some (.fn (.func f) first caps):=by exact rfl)(has:cw env c.args.toList=some asz:=by exact rfl)
  (hl:Les (first++asz++caps) (AV.rens js as0):=by
   repeat' (first|exact Le.refl _|exact Le.nil|exact Le.u _|exact Le.fs _|exact Les.refl _|exact trivial|refine aG ?_|refine bC ?_|refine Le.fnc ?_ ?_|refine⟨?_,?_⟩))
  (hla:AV.lts js.length as0=true:=by exact rfl)(hj:js.Nodup:=by decide)
  (hwin:iR js st (st0.map (AO.ren js)):=by repeat' (first|exact rfl|exact trivial|exact wx|refine⟨?_,?_⟩))
  (hlt:d3 js.length st0=true:=by first|exact rfl|repeat' (first|exact rfl|refine da rfl ?_|refine da (om _ _ _ _ _ _) ?_))
  (hlive:la st0=true:=by exact rfl)(hw:Wt ops env o true:=by exact Wt.none rfl)(ho:o.dst=some d:=by exact rfl)(hd:Nat.ble (d+1) e.n=true:=by exact rfl)
  (hr:a.ren js=a':=by exact rfl)(hL:L.map (AO.ren js)=L':=by repeat' (first|apply qS|exact pu _ _ _ _ _ _|exact rfl))
  (hr2:a.lt js.length=true:=by exact rfl)
  (hL2:d3 js.length L=true:=by first|exact rfl|repeat' (first|exact rfl|refine da rfl ?_|refine da (om _ _ _ _ _ _) ?_)):WL P e ops (o::rest) env st R:=by grind [aw]
end
theorem br{P:Program}{e:En}{x:Exit}{K:Ko}{env:Env}{st:List AO}{k:Nat}(n:Nat)(H:e.m.length=k)(h:WE P e x K [] (st.take n))(ho:d3 n (st.take n)=true:=by first|exact rfl|exact Kv)(hb:Nat.ble k n=true:=by exact rfl):WE P e x K env st:=
 WE.drop n (Sub.nil _) rfl ho (Nat.le_trans (Nat.le_of_eq H) (nbT hb)) h
theorem cy{st:List AO}:(([]:List AV).all λx=>x.okS st&&Nat.beq x.cells.length 1)=true:=rfl
theorem bL{st:List AO}{id ver off T k:Nat}{es:List (List AV)}{l:List AV}(h:st[id]? =some (.os T k ver es))(hl:(l.all λx=>x.okS st&&Nat.beq x.cells.length 1)=true):((AV.pe id ver off::l).all λx=>x.okS st&&Nat.beq x.cells.length 1)=true:=by rw[List.all_cons,hl];simp[AV.okS,h,AV.cells]
theorem mL{w:World}{b off:Nat}{c:Value}(h:w.cell? ⟨b,off,none⟩=some c):w.setCell ⟨b,off,none⟩ c=w:=by
 have hh:(w.setCell ⟨b,off,none⟩ c).heap=w.heap:=by
  unfold World.setCell;refine Array.ext_getElem? λi=>?_;simp only[Array.getElem?_modify,Option.isSome_none,Bool.false_eq_true,if_false];by_cases hi:b=i;subst hi;rw[if_pos rfl];unfold World.cell? at h;split at h;rename_i cs t fr hc;simp only[Option.isSome_none,Bool.false_eq_true,if_false] at hc h;rw[hc,Option.map_some];have:cs.setIfInBounds off c=cs:=by refine Array.ext_getElem? λj=>?_;rw[Array.getElem?_setIfInBounds];by_cases hj:off=j;subst hj;obtain⟨h1,h2⟩:=Array.getElem?_eq_some_iff.1 h;rw[if_pos rfl,if_pos h1,h];rw[if_neg hj]
  simp only[this];cases h;rw[if_neg hi]
 show({ w with heap:=(w.setCell ⟨b,off,none⟩ c).heap }:World)=w;rw[hh]
section
variable{P:Program}{env:Env}{st:List AO}{dst:Option Tmp}{ty:TypeId}{pos:String}{after:Array Edge}{guard:Option (Nat×Bool)}
theorem iu{T:TypeId}{x y:Operand}{u:Value}{ps:List D}(hx:opv env x=some (.d (.pc (.v u::ps))))(hy:opv env y=some (.d (.v u)))(h1:u.oneCell'=true)(hn:bt P T=some 1):
  Does P env st ⟨dst, .store T x y,ty,pos,after,guard⟩ (.d (.v undef)) st:=λm φ a w hsr he=>by
 obtain⟨b,off,g1,g2⟩:=jr he hx;obtain⟨_,v,g3,g4⟩:=pK (i:=0) g2 rfl;simp only[RD] at g4;subst g4;rw[Nat.add_zero] at g3;have hy':=bd he hy;simp only[RA,RD] at hy';have hc:v.cells= #[v]:=by cases v<;>first|rfl|simp[Value.oneCell'] at h1
 refine⟨undef,w,m,φ, .inr ⟨?_,rfl⟩,Ev.refl m φ w,hsr,RAv⟩;have hst:(store ⟨b,off,none⟩ v).run P w= .ok () w:=by rw[run_store P w _ v _ h1,dO g3];simp only[uP g3,Bool.false_eq_true,if_false,mL (dO g3)]
 have hsc:(storeCells ⟨b,off,none⟩ [v] 0).run P w= .ok () w:=by
  have e0:(⟨b,off,none⟩:Addr).add 0=⟨b,off,none⟩:=by simp[Addr.add]
  simp[storeCells,e0,hst]
 simp[execOp,Instr.storeAt,Instr.sureAddr,g1,storeVar,hy',hc,aP hn,hsc]
end
theorem aR{ps qs:List D}(n:Nat)(h:ps.take n=qs):Le (.d (.pc ps)) (.d (.pc qs)):=λ_ _ _ _ hh=>by
 subst h;simp only[RA,RD] at hh⊢;obtain⟨b,off,h1,h2⟩:=hh;exact⟨b,off,h1,lh n h2⟩
theorem fM{α:Type}[BEq α][LawfulBEq α]{f:α->AV}{x y:α}(h:(y==x)=true):Le (f y) (f x):=by rw[eq_of_beq h];exact Le.refl _
open Go.ChangeShapes Go.WideShapes Go.ChangeAt Go.RowKit
theorem oX{φ w}{α:Type}(f:α->Value):∀l:List α,RFs φ w (l.map λx=>D.v (f x)) (l.map f)
 |[]=>by simp[RFs]
 |x::l=>by
  simp only[List.map_cons,RFs];exact⟨f x,l.map f,rfl,by simp[RD],oX f l⟩
theorem pi{P:Program}{w:World}{name:String}{g n f:Nat}{t e:TypeId}{k:IntKind}{cs:Array Value}{sp:Nat->Bool}{tab:List Int}{p:List MemPlace}(hu:P.underlying t=some (.array n e))(he:P.underlying e=some (.int k))(hce:P.cellsOf e=1)(hct:P.cellsOf t=n)
  (hg:P.globalNamed name=some g)(hv:w.var? P name=some cs)(hd:DataW.trod (λ_=>()) P w 0 sp false f t cs.toList=some (.agg (tab.map λn=> .lit (.int k n)),p))(hz:0<cs.size->∀j,w.frozen? ⟨g,j,none⟩=false):RPs (bl w) w (tab.map (D.i k)) g 0:=by
 obtain⟨xs,m,rfl,hx,hlen,hn,hel⟩:=DataW.trod_array hu hd;simp only[Prod.mk.injEq,DataW.agg.injEq] at hx;have htl:tab.length=n:=by have:=congrArg List.length hx.1;simp only[List.length_map] at this;omega
 rw[hct] at hlen;have hcell:∀i v,(tab.map (Value.int k))[i]? =some v->cs[i]? =some v:=λi v hi=>by
  rw[List.getElem?_map,Option.map_eq_some_iff] at hi;obtain⟨z,hz,rfl⟩:=hi;have hin:i<n:=by rw[<-htl];exact(giS.1 hz).1
  have h1:=hel i hin;have hxi:i<xs.length:=oM;rw[geG hxi] at h1;obtain⟨n',e1,e2,_⟩:=DataW.trod_int he h1;rw[hce,Nat.mul_one] at e1;have h2:(tab.map λn=>(DataW.lit (.int k n):DataW Unit))[i]? =some (xs[i]).1:=by rw[hx.1,List.getElem?_map,geG hxi];rfl
  rw[List.getElem?_map,hz,e2] at h2;simp only[Option.map_some,ay,DataW.lit.injEq,Lit.int.injEq,true_and] at h2;subst h2;have h3:cs.toList[i]? =some (.int k z):=by
   have h4:(cs.toList.drop i).take 1=[Value.int k z]:=e1;have h5:((cs.toList.drop i).take 1)[0]? =some (Value.int k z):=by rw[h4];rfl
   rw[List.getElem?_take,if_pos oM,List.getElem?_drop] at h5;simpa using h5
  simpa using h3
 have hall:bl w g=cs.size:=by have h:=hv;simp only[World.var?,hg,bnS] at h;unfold bl;split at h;rename_i c _ _ hh;simp only[ay] at h;subst h;rw[hh];cases h
 have hm:tab.map (D.i k)=tab.map λx=>D.v (Value.int k x):=rfl;rw[hm];refine dV (vs:=tab.map (Value.int k)) (oX _ _) (λj v hj=>?_);have h1:=hcell j v hj;rw[Nat.zero_add,hall];exact⟨(Array.getElem?_eq_some_iff.1 h1).1,n4 (by rw[World.var?_cell hg hv];exact h1) (hz (by have:=(Array.getElem?_eq_some_iff.1 h1).1;omega) j)⟩
theorem qG{W:World}{ps:List MemPlace}{g n:Nat}{R:Nat->Nat->Prop}(h:∀b off,MemPlace.cell b off∈ps->(∃c t,W.heap[b]? =some (.cells c t (0,0)))/\R b off)(hm:∀x∈MemPlace.row ⟨g,0,none⟩ n,x∈ps)(h0:0<n)(j:Nat):W.frozen? ⟨g,j,none⟩=false:=by obtain⟨⟨c,t,hc⟩,_⟩:=h g 0 (hm _ (List.mem_map.2 ⟨0,List.mem_range.2 h0,rfl⟩));simp[World.frozen?,hc]
theorem mU{H:Type}{enc:TypeId×Value->H}{C:Checked}{os:Os}{f:FuncId}{fn:Func}{s:ChangeSpec}{conds:List PathCond}{tb:TypeId}(n:Nat)(X:World->Prop)(hX:∀w w':World,w.heap=w'.heap->X w->X w')(own:ownKnob C.prog.godebug=none)(started:os.Started)(noInit:C.prog.inits.idxOf? f=none)(hfn:C.prog.funcs[f]? =some fn)
  (witness:∃(w:World)(tape:Tape)(i:Input),w.os=os/\(w.forCall tape i).Shaped C.prog/\i.vars=[]/\Input.okWide C.prog (w.forCall tape i) .any w.heap.size f i/\
   ((s.pre enc C.prog fn conds false (w.forCall tape i).memory i.args/\X (w.forCall tape i).memory)/\sizedMet enc C.prog fn (OpenSpec.ofChange s) false (w.forCall tape i).memory i.args)/\({}:Assume).holds C.prog (lone (Frame.enter C.prog f i.args .normal) [] (w.forCall tape i)))
  (hvars:s.vars=[])(hn:fn.params.size=n)(hres:fn.resultTypes= #[tb])(hb:C.prog.underlying tb=some .bool)
  (hspec:∀ds:List (DataW H),ds.length=n->s.fn H ds={ results:=[.lit (.bool true)],args:=ds })(hl:laidOutB C.prog=true)
  (htypes:(fn.params.toList.all λt=>C.prog.readableRec t&&decide (t<C.prog.types.size))=true)
  (hwalk:∀(W:World)(base:Nat)(args:Array Value)(ds:List (DataW H))(p:List MemPlace),X W->(∀(j:Nat) t v,fn.params[j]? =some t->args[j]? =some v->Value.okWide C.prog W .any base t v)->
   oU enc C.prog W (λ_=>true) true fn.params.toList args.toList ds p->(DataW.weightsEach C.prog fn.params.toList ds).all (·<=reachBytes)=true->
   Calls C.prog f args W λe W'=>e= .returned (.bool true)/\Below W.heap.size W W'):
  ReturnsInHanded {} C os f .any (λw args=>(s.pre enc C.prog fn conds false w args/\X w)/\sizedMet enc C.prog fn (OpenSpec.ofChange s) false w args) (s.post enc C.prog fn false true false false):=by
 refine returnsInHanded_of_change_and (X:=λw _=>X w) (λw w' _ hh h=>hX w w' hh h) own started noInit hfn witness ?_;intro W base args ds gs before hval hW _ hsz hXW _;have hW':=hW;obtain⟨p,q,hA,hV,rfl,hNF,_⟩:=hW;rw[hvars] at hV;obtain⟨rfl,rfl⟩:=trodVars_none hV;have hvt:s.plain.varTypes C.prog=[]:=by simp[DataSpec.varTypes,ChangeSpec.plain,hvars]
 rw[hvt] at hsz;simp only[List.append_nil] at hsz hW';have hlt:∀y∈p,y.block<W.heap.size:=λy hy=>by simpa using hW'.lt y (by simp[hy])
 have hdl:ds.length=n:=by rw[(jR hA).1];simpa using hn
 refine(hwalk W base args ds p hXW hval ⟨hA,kM hNF λx hx=>List.mem_append_left _ hx⟩ hsz).mono λe W' ⟨he,hbel⟩=>?_;subst he;refine⟨_,rfl,ds,[],p,[],p,[],?_,?_,?_,?_,hbel.frame _,λh=>by cases h⟩;simpa using hW';simp only[List.append_nil,hspec ds hdl,hres];exact trodAll_mk1 (shut_bool hb _);simp only[List.append_nil,hspec ds hdl];exact gZ hl hbel htypes hA hlt;simp only[List.append_nil,hspec ds hdl,hvars];rfl
theorem wL{α:Type}(cs:Array Value)(f g:α->Value):∀(tab:List α)(i0:Nat),(∀k p,tab[k]? =some p->cs[2*(i0+k)]? =some (f p)/\cs[2*(i0+k)+1]? =some (g p))->∀j v,(tab.flatMap λp=> [f p,g p])[j]? =some v->cs[2*i0+j]? =some v
 |[],i0,h,j,v,hv=>by simp at hv
 |p::r,i0,h,0,v,hv=>by
  have:=(h 0 p rfl).1;rw[List.flatMap_cons] at hv;have e:f p=v:=inS hv;rw[<-e];exact this
 |p::r,i0,h,1,v,hv=>by
  have:=(h 0 p rfl).2;rw[List.flatMap_cons] at hv;have e:g p=v:=inS hv;rw[<-e];exact this
 |p::r,i0,h,j+2,v,hv=>by
  rw[List.flatMap_cons] at hv;have:=wL cs f g r (i0+1) (λk q hq=>by
   have:=h (k+1) q (by simpa using hq);rw[show i0+1+k=i0+(k+1) by omega];exact this) j v hv
  rw[show 2*i0+(j+2)=2*(i0+1)+j by omega];exact this
theorem ra{φ w}{α:Type}(f g:α->ByteArray):∀l:List α,RFs φ w (l.flatMap λx=> [D.s (f x),D.s (g x)]) (l.flatMap λx=> [Value.string (f x),Value.string (g x)])
 |[]=>by simp[RFs]
 |x::l=>by
  simp only[List.flatMap_cons,List.cons_append,List.nil_append,RFs];exact⟨_,_,rfl,by simp[RD],_,_,rfl,by simp[RD],ra f g l⟩
theorem lv{P:Program}{w:World}{name:String}{g n f:Nat}{t e ts:TypeId}{f0 f1:Field}{cs:Array Value}{sp:Nat->Bool}{tab:List (ByteArray×ByteArray)}{p:List MemPlace}(hu:P.underlying t=some (.array n e))(he:P.underlying e=some (.struct #[f0,f1]))(h0:f0.type=ts)(h1:f1.type=ts)(o0:f0.offset=0)(o1:f1.offset=1)(hs:P.underlying ts=some .string)(hcs:P.cellsOf ts=1)(hce:P.cellsOf e=2)(hct:P.cellsOf t=2*n)
  (hg:P.globalNamed name=some g)(hv:w.var? P name=some cs)(hd:DataW.trod (λ_=>()) P w 0 sp false f t cs.toList=some (.agg (tab.map λp=> .agg [.lit (.string p.1.data.toList), .lit (.string p.2.data.toList)]),p))(hz:0<cs.size->∀j,w.frozen? ⟨g,j,none⟩=false):RPs (bl w) w (tab.flatMap λp=> [D.s p.1,D.s p.2]) g 0:=by
 obtain⟨xs,m,rfl,hx,hlen,hn,hel⟩:=DataW.trod_array hu hd;simp only[Prod.mk.injEq,DataW.agg.injEq] at hx;have htl:tab.length=n:=by have:=congrArg List.length hx.1;simp only[List.length_map] at this;omega
 rw[hct] at hlen;have one:∀(i:Nat)(s:ByteArray)(k:Nat),((cs.toList.drop (i*2)).take 2|>.drop k).take 1=[Value.string s]->k<2->cs[2*i+k]? =some (.string s):=λi s k h hk=>by
  have h5:(((cs.toList.drop (i*2)).take 2|>.drop k).take 1)[0]? =some (Value.string s):=by rw[h];rfl
  rw[List.getElem?_take,if_pos oM,List.getElem?_drop,List.getElem?_take,if_pos oM,List.getElem?_drop] at h5;rw[show 2*i+k=i*2+(k+0) by omega,<-Array.getElem?_toList];exact h5
 have hcell:=wL cs (λp:ByteArray×ByteArray=>Value.string p.1) (λp=>Value.string p.2) tab 0 (λi q hq=>by
  have hin:i<n:=by rw[<-htl];exact(giS.1 hq).1
  have h2:=hel i hin;have hxi:i<xs.length:=oM;rw[geG hxi] at h2;obtain⟨y0,y1,n',e1,_,e3,e4⟩:=trod_struct2 he h2;rw[hce,o0,h0,hcs] at e3;rw[hce,o1,h1,hcs] at e4;obtain⟨s0,a1,a2,_⟩:=DataW.trod_string hs e3;obtain⟨s1,b1,b2,_⟩:=DataW.trod_string hs e4;have h3:(tab.map λp=>(DataW.agg [.lit (.string p.1.data.toList), .lit (.string p.2.data.toList)]:DataW Unit))[i]? =some (xs[i]).1:=by rw[hx.1,List.getElem?_map,geG hxi];rfl
  rw[List.getElem?_map,hq,e1,a2,b2] at h3;simp only[Option.map_some,ay,DataW.agg.injEq,List.cons.injEq,DataW.lit.injEq,Lit.string.injEq,and_true,Array.toList_inj] at h3;have c0:q.1=s0:=ByteArray.ext h3.1;have c1:q.2=s1:=ByteArray.ext h3.2;rw[c0,c1,Nat.zero_add];exact⟨one i s0 0 a1 oM,one i s1 1 b1 oM⟩)
 have hall:bl w g=cs.size:=by have h:=hv;simp only[World.var?,hg,bnS] at h;unfold bl;split at h;rename_i c _ _ hh;simp only[ay] at h;subst h;rw[hh];cases h
 refine dV (vs:=tab.flatMap λp=> [Value.string p.1,Value.string p.2]) (ra _ _ _) (λj v hj=>?_);have h1:=hcell j v hj;rw[Nat.zero_add,hall];rw[Nat.mul_zero,Nat.zero_add] at h1;exact⟨(Array.getElem?_eq_some_iff.1 h1).1,n4 (by rw[World.var?_cell hg hv];exact h1) (hz (by have:=(Array.getElem?_eq_some_iff.1 h1).1;omega) j)⟩
theorem vx{m φ w}{st:List AO}{id b cl cl':Nat}{es es':List (Value×Nat)}{xs xs':List AV}{l:List MapEntry}(hs:SR m φ st w)(hi:st[id]? =some (.mb es xs cl))(hb:m[id]? =some (.blk b))(hkeys:l.map (λe=>(e.key,e.born))=es')(hv:RAs m φ w xs' (l.map (·.val))):
  Ev m φ w m φ { w with heap:=w.heap.setIfInBounds b (.map ⟨l⟩ cl') }/\SR m φ (st.set id (.mb es' xs' cl')) { w with heap:=w.heap.setIfInBounds b (.map ⟨l⟩ cl') }:=by
 obtain⟨b',hbb,h0,l0,h1,h2,h3⟩:=hs.obj id _ _ hi hb;simp only[Cz.blk.injEq] at hbb;subst hbb;have hlt:=bY h1;have hne:∀b2,b2≠b->(w.heap.setIfInBounds b (.map ⟨l⟩ cl'))[b2]? =w.heap[b2]? :=λb2 hn=>by simp[Ne.symm hn]
 have hF:Fz φ w φ { w with heap:=w.heap.setIfInBounds b (.map ⟨l⟩ cl') }:=λb2 off c g1 g2=>⟨g1,by
  have hn:b2≠b:=λe=>by subst e;omega
  rw[cZ (w':={ w with heap:=w.heap.setIfInBounds b (.map ⟨l⟩ cl') }) (hne b2 hn)];exact g2⟩
 have hset:m.set id (.blk b)=m:=by apply List.ext_getElem?;intro i;by_cases hii:id=i;subst hii;rw[List.getElem?_set_self (giS.1 hb).1,hb];rw[List.getElem?_set_ne hii]
 have:=fG (w':={ w with heap:=w.heap.setIfInBounds b (.map ⟨l⟩ cl') }) (φ':=φ) (o':= .mb es' xs' cl') (c':= .blk b) hs hi rfl hb rfl rfl rfl rfl sM (λb2 hb2 hn=>⟨hne b2 (λe=>hn (by rw[e];rfl)),rfl⟩) hF (λb2 hb2=>hs.lt b2 (by simpa using hb2)) (λb2 hb2=> .inl hb2)
  (by rw[hset];exact⟨b,rfl,h0,l,by simp[hlt],hkeys,RAs.mono (Pre.refl m) hF _ _ hv⟩)
 rwa [hset] at this
section
variable{P:Program}{env:Env}{st:List AO}{dst:Option Tmp}{ty:TypeId}{pos:String}{after:Array Edge}{guard:Option (Nat×Bool)}
theorem ta{κ:Type}[DecidableEq κ]{dk:Value->Option κ}{kf:κ->Value}(hd:∀v k,dk v=some k->v=kf k){T kt et:TypeId}(hK:KeyX P kt kf)(hT:P.underlying T=some (.map kt et)){es:List (Value×Nat)}{xs:List AV}{cl:Nat}{kv:Value}{uu:AV}{o':AO}
  (h:muG dk es xs cl kv uu=some o'){m φ w}{b:Nat}{val:Value}{l:List MapEntry}(hb:w.heap[b]? =some (.map ⟨l⟩ cl))(q2:l.map (λe=>(e.key,e.born))=es)(q3:RAs m φ w xs (l.map (·.val)))(hu:RA m φ w uu val):
  ∃l' cl' es' xs',o'= .mb es' xs' cl'/\(Instr.mapUpdate T (.map (some b)) kv val).run P w= .ok () { w with heap:=w.heap.setIfInBounds b (.map ⟨l'⟩ cl') }/\l'.map (λe=>(e.key,e.born))=es'/\RAs m φ w xs' (l'.map (·.val)):=by
 unfold muG at h;split at h;rename_i k L hk hL;have e1:=hd _ _ hk;subst e1;have hkeys:l.map (·.key)=L.map kf:=by rw[<-kS hd hL,<-q2,List.map_map];rfl
 have hf:=hK.find k L l w hkeys;split at h;rename_i j hj;obtain rfl:=inS h;have hLj:=qC hj;have hlj:(l.map (·.key))[j]? =some (kf k):=by rw[hkeys,List.getElem?_map,hLj];rfl
 rw[List.getElem?_map,Option.map_eq_some_iff] at hlj;obtain⟨e,he,hek⟩:=hlj;rw[hj,bnS,he,Option.map_some] at hf;refine⟨l.modify j (λe'=>{ e' with key:=kf k,val:=val }),cl,es,_,rfl,?_,?_,?_⟩;simp[Instr.mapUpdate,run_underlying hT,MapKept.run_getObj_map hb,hK.chk,hf,he,hek,hK.stays,MapKept.run_setObj_map _ hb,Result.andThen];rw[<-q2];apply List.ext_getElem?;intro i;rw[List.getElem?_map,List.getElem?_map,List.getElem?_modify];by_cases hij:j=i;subst hij;simp[he,hek];simp[hij];have:(l.modify j (λe'=>{ e' with key:=kf k,val:=val })).map (·.val)=(l.map (·.val)).set j val:=by apply List.ext_getElem?;intro i;rw[List.getElem?_map,List.getElem?_modify,List.getElem?_set];by_cases hij:j=i;subst hij;simp[he,(giS.1 he).1];simp[hij]
 rw[this];exact jd q3 hu;rename_i hj;obtain rfl:=inS h;rw[hj,Option.bind_none] at hf;refine⟨l++ [⟨kf k,val,cl⟩],cl+1,_,_,rfl,?_,by simp[q2],by rw[List.map_append];exact ba q3 (bp hu cf)⟩;simp[Instr.mapUpdate,run_underlying hT,MapKept.run_getObj_map hb,hK.chk,hf,MapKept.run_setObj_map _ hb,Result.andThen];cases h
theorem s8{T:TypeId}{x ki v:Operand}{o:Oper}{r:AV}{st':List AO}(ho:o=⟨dst, .insert T x ki v,ty,pos,after,guard⟩\/o=⟨dst, .mapUpdate T x ki v,ty,pos,after,guard⟩)(h:muX P env st T x ki v=some (r,st')):Does P env st o r st':=λm φ a w hs he=>by
 unfold muX at h;split at h;rename_i kt et id kv uu hT hx hk hv;obtain⟨ka,hk1,hk2⟩:=bW hk;have hkv:a.eval ki=kv:=qz hk2 (bd he hk1);split at h;rename_i es xs cl hst;obtain⟨b,h1,h2⟩:=gp he hx;obtain⟨b',hbb,h0,l,g1,g2,g3⟩:=hs.obj id _ _ hst h1;simp only[Cz.blk.injEq] at hbb;subst hbb;have hu:=bd he hv;split at h;rename_i o' ho';simp only[ay,Prod.mk.injEq] at h;obtain⟨rfl,rfl⟩:=h;have key:∃l' cl' es' xs',o'= .mb es' xs' cl'/\(Instr.mapUpdate T (.map (some b)) kv (a.eval v)).run P w= .ok () { w with heap:=w.heap.setIfInBounds b (.map ⟨l'⟩ cl') }/\l'.map (λe=>(e.key,e.born))=es'/\RAs m φ w xs' (l'.map (·.val)):=by split at ho';rename_i hd;exact ta (λ_ _=>ua) (qB hd) hT ho' g1 g2 g3 hu;rename_i hd;exact ta (λ_ _=>t9) (qA hd) hT ho' g1 g2 g3 hu;cases ho'
 obtain⟨l',cl',es',xs',rfl,k1,k2,k3⟩:=key;obtain⟨p1,p2⟩:=vx (cl':=cl') hs hst h1 k2 k3;refine⟨undef,_,m,φ, .inr ⟨?_,rfl⟩,p1,p2,RAv⟩;rcases ho with rfl|rfl<;>simp[execOp,h2,hkv,k1]
 cases h;cases h;cases h
theorem td{T:TypeId}:DoesB P env st ⟨dst, .makeMap T none,ty,pos,after,guard⟩ (.mp st.length) (st++ [.mb [] [] 0]):=λm φ a w hs he=>by
 have hF:=Fz.alloc hs (.map #[] 0);have hk:∀b,b<w.heap.size->(w.alloc (.map #[] 0)).heap[b]? =w.heap[b]? :=λb hb=>bz hb;have hnew:∀b,(Cz.blk w.heap.size).has b->w.heap.size<=b:=λb hb=>by simp only[Cz.has] at hb;omega
 refine⟨.map (some w.heap.size),w.alloc (.map #[] 0),m++ [.blk w.heap.size],φ,rfl,Ev.push hs hF hk sM rfl rfl rfl hnew,SR.push hs hF hk sM ?_ hnew,?_,(Below.refl _ _).alloc (Nat.le_refl _) _⟩;exact⟨w.heap.size,rfl,hs.lt _ (Nat.le_refl _),[],heap_alloc_new w _,rfl,cf⟩;simp only[RA];exact⟨_,by rw[<-hs.len];simp,rfl⟩
theorem xo{T:TypeId}{x:Operand}{r:AV}{st':List AO}(h:rgX P env st T x=some (r,st')):Does P env st ⟨dst, .range T x,ty,pos,after,guard⟩ r st':=λm φ a w hs he=>by
 have hnew:∀b,(Cz.blk w.heap.size).has b->w.heap.size<=b:=λb hb=>by simp only[Cz.has] at hb;omega
 unfold rgX at h;split at h;rename_i kt et id hT hx;split at h;rename_i es xs cl hst;simp only[ay,Prod.mk.injEq] at h;obtain⟨rfl,rfl⟩:=h;have hra:=bd he hx;obtain⟨b,h1,h2⟩:=gp he hx;obtain⟨b',hbb,h0,l,g1,g2,g3⟩:=hs.obj id _ _ hst h1;simp only[Cz.blk.injEq] at hbb;subst hbb;have hF:=Fz.alloc hs (.mapIter (some b) cl #[] cl);have hk:∀c,c<w.heap.size->(w.alloc (.mapIter (some b) cl #[] cl)).heap[c]? =w.heap[c]? :=λc hc=>bz hc;rw[h2] at hra;refine⟨.pointer (some ⟨w.heap.size,0,none⟩),w.alloc (.mapIter (some b) cl #[] cl),m++ [.blk w.heap.size],φ, .inl ?_,Ev.push hs hF hk sM rfl rfl rfl hnew,SR.push hs hF hk sM ⟨_,rfl,hs.lt _ (Nat.le_refl _),some b,heap_alloc_new w _,RA.mono (Pre.append m _) hF _ _ hra⟩ hnew,?_⟩;simp[execOp,h2,Instr.range,run_underlying hT,MapKept.run_getObj_map g1];simp only[RA];exact⟨_,by rw[<-hs.len];simp,rfl⟩;cases h;rename_i kt et hT hx;simp only[ay,Prod.mk.injEq] at h;obtain⟨rfl,rfl⟩:=h;have h2:=aV he hx;have hF:=Fz.alloc hs (.mapIter none 0 #[] 0);have hk:∀c,c<w.heap.size->(w.alloc (.mapIter none 0 #[] 0)).heap[c]? =w.heap[c]? :=λc hc=>bz hc;refine⟨.pointer (some ⟨w.heap.size,0,none⟩),w.alloc (.mapIter none 0 #[] 0),m++ [.blk w.heap.size],φ, .inl ?_,Ev.push hs hF hk sM rfl rfl rfl hnew,SR.push hs hF hk sM ⟨_,rfl,hs.lt _ (Nat.le_refl _),none,heap_alloc_new w _,RAv⟩ hnew,?_⟩;simp[execOp,h2,Instr.range,run_underlying hT];simp only[RA];exact⟨_,by rw[<-hs.len];simp,rfl⟩;cases h
theorem k9{s:Nat}:∀{es:List (Value×Nat)}{l:List MapEntry}{j:Nat},l.map (λe=>(e.key,e.born))=es->qW es s=some j->∃e,l[j]? =some e/\l.find? (·.born==s)=some e
 |[],l,j,_,h=>by cases h
 |p::es,[],j,hl,h=>by simp at hl
 |p::es,e::l,j,hl,h=>by
  simp only[List.map_cons,List.cons.injEq] at hl;obtain⟨rfl,hl⟩:=hl;unfold qW at h;cases hb:Nat.beq e.born s with
  |true=>rw[hb] at h;obtain rfl:=inS h;refine⟨e,rfl,?_⟩;have:=nbE hb;rw[List.find?_cons_of_pos (by simp[this])]
  |false=>rw[hb,cdF] at h;split at h;rename_i i hi;obtain rfl:=inS h;obtain⟨e',h1,h2⟩:=k9 hl hi;refine⟨e',by simpa using h1,?_⟩;rw[List.find?_cons_of_neg (by intro hh;rw[beq_iff_eq] at hh;rw[hh] at hb;simp at hb)];exact h2;cases h
theorem yd{x:Operand}{r:AV}(h:enX env st x=some r):Yields P env st ⟨dst, .entry x,ty,pos,after,guard⟩ r:=λm φ a w hs he=>by
 unfold enX at h;split at h;rename_i iid hx;split at h;rename_i id since seen stp hit;split at h;rename_i s es xs cl hseen hmb;cases hc:Nat.beq cl stp with
 |false=>rw[hc] at h;cases h
 |true=>
  rw[hc,cdT] at h;have hc:=nbE hc;subst hc;split at h;rename_i j hj;split at h;rename_i p r0 hp hr0;obtain rfl:=inS h;obtain⟨b,g1,g2⟩:=fK he hx;obtain⟨b',hbb,h0,sb,g3,g4⟩:=hs.obj iid _ _ hit g1;simp only[Cz.blk.injEq] at hbb;subst hbb;simp only[RA] at g4;obtain⟨mb,g5,g6⟩:=g4;simp only[Value.map.injEq] at g6;subst g6;obtain⟨b2,hb2,q0,l,q1,q2,q3⟩:=hs.obj id _ _ hmb g5;simp only[Cz.blk.injEq] at hb2;subst hb2;obtain⟨e,k1,k2⟩:=k9 q2 hj;have hpe:p=(e.key,e.born):=by
   have:(l.map (λe=>(e.key,e.born)))[j]? =some (e.key,e.born):=by rw[List.getElem?_map,k1];rfl
   rw[q2,hp] at this;exact inS this
  subst hpe;obtain⟨v,v1,v2⟩:=cF q3 hr0;rw[List.getElem?_map,k1,Option.map_some,ay] at v1;subst v1;refine⟨.tuple #[e.key,e.val],by simp only[RA];exact⟨_,rfl,bp (jf _) (bp v2 cf)⟩,λw' hb=>?_⟩;have e1:w'.heap[b]? =some (.mapIter (some mb) since ⟨seen⟩ cl):=by rw[hb.block b (bY g3)];exact g3
  have e2:w'.heap[mb]? =some (.map ⟨l⟩ cl):=by rw[hb.block mb (bY q1)];exact q1
  have f1:(getObj b).run P w'= .ok (.mapIter (some mb) since ⟨seen⟩ cl) w':=by simp[getObj,Sem.run,e1]
  have f2:(getObj mb).run P w'= .ok (.map ⟨l⟩ cl) w':=by simp[getObj,Sem.run,e2]
  have f3:(⟨seen⟩:Array Nat).back? =some s:=by rw[<-hseen];simp[Array.back?,List.getLast?_eq_getElem?]
  have f4:(⟨l⟩:Array MapEntry).find? (·.born==s)=some e:=by rw[<-Array.find?_toList];exact k2
  simp[execOp,g2,Instr.entry,f1,f2,f3,f4];cases h;cases h
 cases h;cases h;cases h
end
theorem dw{α:Type}{c:Bool}{a:Option α}{r:α}(h:(bif c then a else none)=some r):c=true/\a=some r:=by cases c;cases h;exact⟨rfl,h⟩
theorem bifN{α:Type}{c:Bool}{a:Option α}{r:α}(h:(bif c then none else a)=some r):c=false/\a=some r:=by cases c;exact⟨rfl,h⟩;cases h
def dF{α:Type}{β:Type}:List α->(List α->β)->β
 |[],k=>k []
 |x::l,k=>dF l λl'=>k (x::l')
theorem dK{α:Type}{β:Type}:∀{l:List α}{k:List α->β},dF l k=k l
 |[],_=>rfl
 |x::l,k=>by unfold dF;rw[dK]
def ju:AV->Option (IntKind×Int)
 | .d (.v (.int k i))=>some (k,i)
 |_=>none
theorem dy{x:AV}{k:IntKind}{i:Int}(h:ju x=some (k,i)):x= .d (.v (.int k i)):=by unfold ju at h;split at h;simp only[ay,Prod.mk.injEq] at h;rw[h.1,h.2];cases h
def osA(st:List AO)(id ver:Nat):Option (Nat×Nat×List (List AV)):=match st[id]? with
 |some (.os T k v es)=>bif Nat.beq v ver then some (T,k,es) else none
 |_=>none
theorem d4{st:List AO}{id ver T k:Nat}{es:List (List AV)}(h:osA st id ver=some (T,k,es)):st[id]? =some (.os T k ver es):=by
 unfold osA at h;split at h;rename_i T' k' v es' hs;cases hb:Nat.beq v ver with
 |false=>rw[hb] at h;cases h
 |true=>rw[hb] at h;simp only[cdT,ay,Prod.mk.injEq] at h;obtain⟨rfl,rfl,rfl⟩:=h;rw[hs,nbE hb]
 cases h
def ixS(P:Program)(st:List AO)(T:Nat)(xr:AV)(i:Int):Option AV:=
 match aZ P T with
 |some (n,_)=>bif decide (0<=i) then(match xr with
  | .d (.sl es)=>(match es[i.toNat]? with
   |some cs=>bif Nat.beq cs.length n then some (.d (.pc cs)) else none
   |none=>none)
  | .os id ver=>(match osA st id ver with
   |some (_,_,es)=>bif decide (i<es.length) then some (.pe id ver (i.toNat*n)) else none
   |none=>none)
  |_=>none) else none
 |none=>none
def tw(P:Program)(st:List AO)(T:Nat):AV->Option AV
 | .pe id ver off=>match osA st id ver with
  |some (_,_,es)=>(match a8 P T,bt P T with
   |some false,_=>es.flatten[off]?
   |some true,some n=>bif decide (off+n<=es.flatten.length) then some (.ag ((es.flatten.drop off).take n)) else none
   |_,_=>none)
  |none=>none
 |_=>none
def faX(P:Program)(st:List AO)(S i:Nat):AV->Option AV
 | .pe id ver off=>match osA st id ver,aF P S i with
  |some _,some (fo,_+1,_)=>some (.pe id ver (off+fo))
  |_,_=>none
 |_=>none
def ncX(st:List AO):AV->Option AV
 | .pe id ver off=>match osA st id ver with
  |some _=>some (.pe id ver off)
  |none=>none
 |_=>none
def lenX(P:Program)(st:List AO)(T:Nat):AV->Option AV
 | .d (.sl es)=>match aZ P T with
  |some _=>some (.d (.v (.int .i64 es.length)))
  |none=>none
 | .os id ver=>match aZ P T,osA st id ver with
  |some _,some (_,_,es)=>some (.d (.v (.int .i64 es.length)))
  |_,_=>none
 | .d (.v (.string s))=>match P.underlying T with
  |some .string=>some (.d (.v (.int .i64 s.size)))
  |_=>none
 | .d (.v (.slice none 0 0))=>match aZ P T with
  |some _=>some (.d (.v (.int .i64 0)))
  |none=>none
 | .mp id=>match P.underlying T,st[id]? with
  |some (.map _ _),some (.mb es _ _)=>some (.d (.v (.int .i64 es.length)))
  |_,_=>none
 |_=>none
def bitX(k:IntKind)(p q:Int):BinOp->Option AV
 | .and=>some (.d (.v (.int k (k.wrap (BitVec.ofInt k.bits p&&&BitVec.ofInt k.bits q).toNat))))
 | .or=>some (.d (.v (.int k (k.wrap (BitVec.ofInt k.bits p|||BitVec.ofInt k.bits q).toNat))))
 | .xor=>some (.d (.v (.int k (k.wrap (BitVec.ofInt k.bits p^^^BitVec.ofInt k.bits q).toNat))))
 | .quo=>bif decide (q=0) then none else some (.d (.v (.int k (k.wrap (p.tdiv q)))))
 | .rem=>bif decide (q=0) then none else some (.d (.v (.int k (p.tmod q))))
 |_=>none
def shX(k:IntKind)(p q:Int):BinOp->Option AV
 | .shr=>bif decide (0<=q) then some (.d (.v (.int k (p.fdiv (2^min q.toNat k.bits))))) else none
 | .shl=>bif decide (0<=q) then some (.d (.v (.int k (k.wrap (p*2^min q.toNat k.bits))))) else none
 |_=>none
def uh(env:Env)(o:Option Operand)(d:Nat):Option Nat:=match o with
 |none=>some d
 |some x=>match(opv env x).bind ju with
  |some (_,i)=>bif decide (0<=i) then some i.toNat else none
  |none=>none
theorem nk{env:Env}{o:Option Operand}{d n:Nat}(h:uh env o d=some n):Bnd env o d n:=by
 cases o with
 |none=>exact(inS h).symm
 |some x=>dsimp only[uh] at h;split at h;rename_i k i hx;obtain⟨z,h1,h2⟩:=bW hx;rw[dy h2] at h1;by_cases hi:0<=i;rw[dcT hi] at h;exact⟨k,i,h1,hi,inS h⟩;rw[dcF hi] at h;cases h;cases h
def sU(P:Program)(env:Env)(T:Nat)(lo hi:Option Operand):AV->Option AV
 | .d (.sl es)=>match aZ P T,uh env lo 0,uh env hi es.length with
  |some (n,_),some l,some h=>bif decide (l<=h)&&(decide (h<=es.length)&&es.all λe=>Nat.beq e.length n) then some (.d (.sl ((es.drop l).take (h - l)))) else none
  |_,_,_=>none
 |_=>none
def qV(P:Program)(env:Env)(T:Nat)(parts:Array (Nat×Operand)):Option AV:=
 match dZ P T,aW P T,cw env (parts.toList.map (·.2)) with
 |some (_,n,_),some zs,some xs=>(match iq (λi=>some (i*n,n)) (zs.map λv=> .d (.v v)) (jk parts.toList xs) with
  |some cs=>some (.ag cs)
  |none=>none)
 |_,_,_=>none
def ug(P:Program)(env:Env)(st:List AO)(T:Nat)(parts:Array (Nat×Operand)):Option AV:=
 match cB P T,aW P T,cw env (parts.toList.map (·.2)) with
 |some pl,some zs,some xs=>(match gK st (λi=>pl[i]?) (zs.map λv=> .d (.v v)) (jk parts.toList xs) with
  |some cs=>some (.ag cs)
  |none=>none)
 |_,_,_=>qV P env T parts
def xJ(P:Program)(st:List AO)(T:Nat):AV->Option AV
 | .d (.v (.slice none 0 0))=>match P.underlying T with
  |some (.slice _)=>some (.d (.v (.bool true)))
  |_=>none
 | .d (.sl (_::_))=>match P.underlying T with
  |some (.slice _)=>some (.d (.v (.bool false)))
  |_=>none
 | .os id ver=>match P.underlying T,osA st id ver with
  |some (.slice _),some (_,_,_::_)=>some (.d (.v (.bool false)))
  |_,_=>none
 |_=>none
def eqX(P:Program)(T:Nat):Option (List Value)->Option (List Value)->BinOp->Option AV
 |some xs,some ys, .eql=>(match ii P T with
  |some ks=>bif bZ ks xs&&bZ ks ys then some (.d (.v (.bool (eqL xs ys)))) else none
  |none=>none)
 |some xs,some ys, .neq=>(match ii P T with
  |some ks=>bif bZ ks xs&&bZ ks ys then some (.d (.v (.bool (!eqL xs ys)))) else none
  |none=>none)
 |_,_,_=>none
def xZ(P:Program)(T:Nat):Option AV->Option AV->BinOp->Option AV
 |some (.d (.v (.bool p))),some (.d (.v (.bool q))), .eql=>(match P.underlying T with
  |some .bool=>some (.d (.v (.bool (p==q))))
  |_=>none)
 |some (.d (.v (.string p))),some (.d (.v (.string q))), .eql=>some (.d (.v (.bool (p.data.toList==q.data.toList))))
 |_,_,_=>none
def ixA(P:Program)(st:List AO)(T:Nat)(xr:AV)(i:Int):Option AV:=match dZ P T with
 |some (len,n,_)=>bif decide (0<=i)&&decide (i<len) then(match xr with
  | .pt id off=>some (.pt id (off+i.toNat*n))
  | .d (.pc ps)=>some (.d (.pc (ps.drop (i.toNat*n))))
  | .pe id ver off=>(match osA st id ver with
   |some _=>some (.pe id ver (off+i.toNat*n))
   |none=>none)
  |_=>none) else none
 |none=>none
def ixV(P:Program)(T:Nat)(xr:AV)(i:Int):Option AV:=match dZ P T with
 |some (len,n,false)=>bif decide (0<=i)&&decide (i<len) then(match xr with
  | .d (.ag ps)=>(match ps[i.toNat*n]? with
   |some p=>some (.d p)
   |none=>none)
  | .ag ps=>ps[i.toNat*n]?
  |_=>none) else none
 |some (len,n,true)=>bif decide (0<=i)&&decide (i<len) then(match xr with
  | .d (.ag ps)=>some (.d (.ag ((ps.drop (i.toNat*n)).take n)))
  | .ag ps=>some (.ag ((ps.drop (i.toNat*n)).take n))
  |_=>none) else none
 |none=>none
def b2X(P:Program)(env:Env)(st:List AO)(S T:TypeId)(x:Operand):Option AV:=match opv env x,P.underlying S,P.underlying T with
 |some (.os id ver),some (.slice e),some .string=>(match osA st id ver,P.underlying e with
  |some (_,_,es),some (.int .u8)=>(match byV es with
   |some bs=>some (.d (.v (.string ⟨bs.toArray⟩)))
   |none=>none)
  |_,_=>none)
 |_,_,_=>none
def exY(P:Program)(t:Ty)(env:Env)(st:List AO)(op:Op):Option AV:=
 match iG t env st op with
 |some r=>some r
 |none=>match op with
  | .indexAddr T x ix=>(match opv env x,(opv env ix).bind ju with
   |some xr,some (_,i)=>(match ixS P st T xr i with
    |some r=>some r
    |none=>ixA P st T xr i)
   |_,_=>none)
  | .load T x=>(opv env x).bind (tw P st T)
  | .fieldAddr S x i=>(opv env x).bind (faX P st S i)
  | .nilCheck x=>(opv env x).bind (ncX st)
  | .call c=>(match c.callee,c.args.toList,c.argTypes.toList with
   | .builtin .len,[x],[T]=>(opv env x).bind (lenX P st T)
   | .builtin .max,[x,y],[_,_]=>(match(opv env x).bind ju,(opv env y).bind ju with
    |some (k,p),some (k',q)=>bif decide (k=k') then some (.d (.v (.int k (if q>p then q else p)))) else none
    |_,_=>none)
   | .builtin .min,[x,y],[_,_]=>(match(opv env x).bind ju,(opv env y).bind ju with
    |some (k,p),some (k',q)=>bif decide (k=k') then some (.d (.v (.int k (if q<p then q else p)))) else none
    |_,_=>none)
   |_,_,_=>none)
  | .binOp .eql T x (.const (.slice none 0 0)) _=>(opv env x).bind (xJ P st T)
  | .binOp b T x y _=>(match(opv env x).bind ju,(opv env y).bind ju with
   |some (k,p),some (k',q)=>(match shX k p q b with
    |some r=>some r
    |none=>bif decide (k=k') then bitX k p q b else none)
   |_,_=>(match eqX P T ((opv env x).bind agV) ((opv env y).bind agV) b with
    |some r=>some r
    |none=>xZ P T (opv env x) (opv env y) b))
  | .slice T x lo hi none=>(opv env x).bind (sU P env T lo hi)
  | .convert S T x=>b2X P env st S T x
  | .lookup T x ki c=>lkX P env st T x ki c
  | .entry x=>enX env st x
  | .build T parts=>ug P env st T parts
  | .index T x ix=>(match opv env x,(opv env ix).bind ju,P.underlying T with
   |some (.d (.v (.string s))),some (_,i),some .string=>(match eU s i with
    |some r=>some (.d (.v (.int .u8 r)))
    |none=>none)
   |some xr,some (_,i),_=>ixV P T xr i
   |_,_,_=>none)
  |_=>none
section
variable{P:Program}{t:Ty}{env:Env}{st:List AO}{dst:Option Tmp}{ty:TypeId}{pos:String}{after:Array Edge}{guard:Option (Nat×Bool)}
theorem nE{x:Operand}{id ver off Te k:Nat}{es:List (List AV)}(hx:opv env x=some (.pe id ver off))(hi:st[id]? =some (.os Te k ver es)):Yields P env st ⟨dst, .nilCheck x,ty,pos,after,guard⟩ (.pe id ver off):=λm φ a w hs he=>by
 obtain⟨p,h2⟩:=sX hs he hx hi;refine⟨_,bd he hx,λw' _=>?_⟩;simp[execOp,h2]
theorem xH{T:Nat}{x ix:Operand}{xr r:AV}{k:IntKind}{i:Int}(hx:opv env x=some xr)(hi:opv env ix=some (.d (.v (.int k i))))(h:ixS P st T xr i=some r):Yields P env st ⟨dst, .indexAddr T x ix,ty,pos,after,guard⟩ r:=by
 unfold ixS at h;split at h;rename_i n bb hT;by_cases h0:0<=i;rw[dcT h0,cdT] at h;split at h;rename_i es;split at h;rename_i cs hc;cases hb:Nat.beq cs.length n with
 |false=>rw[hb] at h;cases h
 |true=>rw[hb] at h;obtain rfl:=inS h;exact aM hT hx (Le.refl _) hi h0 hc (nbE hb)
 cases h;rename_i id ver;split at h;rename_i T' k' es ho;by_cases h1:i<es.length;rw[dcT h1] at h;obtain rfl:=inS h;exact ao hT hx (d4 ho) hi h0 h1;rw[dcF h1] at h;cases h;cases h;cases h;rw[dcF h0] at h;cases h;cases h
theorem tv{T:Nat}{x:Operand}{xr r:AV}(hx:opv env x=some xr)(h:tw P st T xr=some r):Yields P env st ⟨dst, .load T x,ty,pos,after,guard⟩ r:=by unfold tw at h;split at h;split at h;rename_i ho;split at h;rename_i ha;exact aH hx (d4 ho) ha h;rename_i n ha hn;obtain⟨hl,h⟩:=dw h;obtain rfl:=inS h;exact o9 hx (d4 ho) ha hn (of_decide_eq_true hl);cases h;cases h;cases h
theorem my{T T' E:Nat}{x:Operand}{b:Bool}(hT:P.underlying T=some (.slice E))(h:∀(m:List Cz)(φ:Nat->Nat)(a:Act)(w:World),SR m φ st w->EnvOk m φ w env a->∃ad ll cc,a.eval x= .slice ad ll cc/\ad.isNone=b):
  Yields P env st ⟨dst, .binOp .eql T x (.const (.slice none 0 0)) T',ty,pos,after,guard⟩ (.d (.v (.bool b))):=λm φ a w hs he=>by
 obtain⟨ad,ll,cc,h2,h3⟩:=h m φ a w hs he;refine⟨.bool b,RAv,λw' _=>?_⟩;have hc:a.eval (.const (.slice none 0 0))= .slice none 0 0:=rfl;subst h3;simp[execOp,h2,hc,eqGuard,binOp,run_equal_slice_nil w' T E ad ll cc hT]
theorem vA{T T':Nat}{x:Operand}{xr r:AV}(hx:opv env x=some xr)(h:xJ P st T xr=some r):Yields P env st ⟨dst, .binOp .eql T x (.const (.slice none 0 0)) T',ty,pos,after,guard⟩ r:=by
 unfold xJ at h;split at h;split at h;rename_i hT;obtain rfl:=inS h;refine my hT λm φ a w hs he=>?_;have h1:=bd he hx;simp only[RA,RD] at h1;exact⟨none,0,0,h1,rfl⟩;cases h;rename_i c es;split at h;rename_i hT;obtain rfl:=inS h;refine my hT λm φ a w hs he=>?_;have h1:=bd he hx;simp only[RA] at h1;obtain⟨ad,ll,cc,h2,h3⟩:=yp h1;refine⟨ad,ll,cc,h2,?_⟩;cases hn:ad.isNone with
 |false=>rfl
 |true=>cases h3 hn
 cases h;split at h;rename_i hT ho;obtain rfl:=inS h;refine my hT λm φ a w hs he=>?_;obtain⟨y,xs,h1,h2,h3,_⟩:=ie hs he hx (d4 ho);rcases h3.2 with⟨rfl,hn⟩|⟨g,cap,cur,rfl,_⟩
 simp at hn;exact⟨_,_,_,h2,rfl⟩;cases h;cases h
theorem yb{T T':Nat}{b:BinOp}{x y:Operand}{r:AV}(h:eqX P T ((opv env x).bind agV) ((opv env y).bind agV) b=some r):Yields P env st ⟨dst, .binOp b T x y T',ty,pos,after,guard⟩ r:=by unfold eqX at h;split at h;rename_i xs ys h1 h2;obtain⟨z,g1,g2⟩:=bW h1;obtain⟨z',k1,k2⟩:=bW h2;split at h;rename_i ks hk;obtain⟨hc,h⟩:=dw h;obtain rfl:=inS h;rw[Bool.and_eq_true] at hc;exact sy hk g1 (lc g2) k1 (lc k2) hc.1 hc.2 rfl;cases h;rename_i xs ys h1 h2;obtain⟨z,g1,g2⟩:=bW h1;obtain⟨z',k1,k2⟩:=bW h2;split at h;rename_i ks hk;obtain⟨hc,h⟩:=dw h;obtain rfl:=inS h;rw[Bool.and_eq_true] at hc;exact xc hk g1 (lc g2) k1 (lc k2) hc.1 hc.2 rfl;cases h;cases h
theorem vO{T T':Nat}{b:BinOp}{x y:Operand}{r:AV}(h:xZ P T (opv env x) (opv env y) b=some r):Yields P env st ⟨dst, .binOp b T x y T',ty,pos,after,guard⟩ r:=by unfold xZ at h;split at h;rename_i h1 h2;split at h;rename_i hT;obtain rfl:=inS h;exact y_eqb hT h1 h2;cases h;rename_i h1 h2;rw[<-ByteArray.toList_eq,<-ByteArray.toList_eq] at h;obtain rfl:=inS h;exact wB h1 h2;cases h
theorem j6{T len n:Nat}{bb:Bool}{x ix:Operand}{id ver off Te k:Nat}{es:List (List AV)}{kk:IntKind}{i:Int}(hT:dZ P T=some (len,n,bb))(hx:opv env x=some (.pe id ver off))(hs0:st[id]? =some (.os Te k ver es))(hi:opv env ix=some (.d (.v (.int kk i))))
  (h0:0<=i)(h1:i<len):Yields P env st ⟨dst, .indexAddr T x ix,ty,pos,after,guard⟩ (.pe id ver (off+i.toNat*n)):=λm φ a w hs he=>by
 have hra:=bd he hx;obtain⟨ver0,y0,g1,g2,g3⟩:=hra;obtain⟨y,xs,e1,_⟩:=hs.obj id _ _ hs0 g1;obtain⟨rfl,rfl⟩:=e1;obtain⟨b,len',cap,rfl,hv⟩:=g3 rfl;exact⟨.pointer (some ⟨b,off+i.toNat*n,none⟩),by simp only[RA];exact⟨_,_,g1,Nat.le_refl _,λ_=>⟨b,_,_,rfl,rfl⟩⟩,λw' _=>by simp[execOp,hv,aV he hi,eo hT h0 h1]⟩
theorem xI{T:Nat}{x ix:Operand}{xr r:AV}{k:IntKind}{i:Int}(hx:opv env x=some xr)(hi:opv env ix=some (.d (.v (.int k i))))(h:ixA P st T xr i=some r):Yields P env st ⟨dst, .indexAddr T x ix,ty,pos,after,guard⟩ r:=by unfold ixA at h;split at h;rename_i len n bb hT;obtain⟨hc,h⟩:=dw h;rw[Bool.and_eq_true] at hc;have h0:=of_decide_eq_true hc.1;have h1:=of_decide_eq_true hc.2;split at h;obtain rfl:=inS h;exact mz hT hx hi h0 h1;obtain rfl:=inS h;exact fd hT hx hi h0 h1;split at h;rename_i ho;obtain rfl:=inS h;exact j6 hT hx (d4 ho) hi h0 h1;cases h;cases h;cases h
theorem rn{T len n:Nat}{x ix:Operand}{ps:List AV}{kk:IntKind}{i:Int}(hT:dZ P T=some (len,n,true))(hx:opv env x=some (.ag ps))(hi:opv env ix=some (.d (.v (.int kk i))))
  (h0:0<=i)(h1:i<len):Yields P env st ⟨dst, .index T x ix,ty,pos,after,guard⟩ (.ag ((ps.drop (i.toNat*n)).take n)):=λm φ a w _ he=>by
 have hra:=bd he hx;simp only[RA] at hra;obtain⟨cs,h2,h3⟩:=hra;obtain⟨t,g1,g2,g3⟩:=d5 hT;exact⟨_,by simp only[RA];exact⟨_,rfl,cq n (cx _ h3)⟩,λw' _=>by simp[execOp,Instr.index,h2,aV he hi,asIntOf,run_underlying g1,h0,h1,aP g2,gE g3 g2]⟩
theorem xG{T:Nat}{x ix:Operand}{xr r:AV}{k:IntKind}{i:Int}(hx:opv env x=some xr)(hi:opv env ix=some (.d (.v (.int k i))))(h:ixV P T xr i=some r):Yields P env st ⟨dst, .index T x ix,ty,pos,after,guard⟩ r:=by unfold ixV at h;split at h;rename_i len n hT;obtain⟨hc,h⟩:=dw h;rw[Bool.and_eq_true] at hc;have h0:=of_decide_eq_true hc.1;have h1:=of_decide_eq_true hc.2;split at h;split at h;rename_i hp;obtain rfl:=inS h;exact uH hT hx hi h0 h1 hp;cases h;exact su hT hx hi h0 h1 h;cases h;rename_i len n hT;obtain⟨hc,h⟩:=dw h;rw[Bool.and_eq_true] at hc;have h0:=of_decide_eq_true hc.1;have h1:=of_decide_eq_true hc.2;split at h;obtain rfl:=inS h;exact sv hT hx hi h0 h1;obtain rfl:=inS h;exact rn hT hx hi h0 h1;cases h;cases h
theorem tW(ht:t.ok P=true){op:Op}{r:AV}(h:exY P t env st op=some r):Yields P env st ⟨dst,op,ty,pos,after,guard⟩ r:=by
 unfold exY at h;split at h;rename_i r' hr;obtain rfl:=inS h;exact kD ht hr;split at h;rename_i T x ix;split at h;rename_i xr k i hx hi;obtain⟨z,h1,h2⟩:=bW hi;rw[dy h2] at h1;split at h;rename_i r1 hr1;obtain rfl:=inS h;exact xH hx h1 hr1;exact xI hx h1 h;cases h;obtain⟨z,h1,h2⟩:=bW h;exact tv h1 h2;obtain⟨z,h1,h2⟩:=bW h;unfold faX at h2;split at h2;split at h2;rename_i ho hf;obtain rfl:=inS h2;exact ai hf h1 (d4 ho);cases h2;cases h2;obtain⟨z,h1,h2⟩:=bW h;unfold ncX at h2;split at h2;split at h2;rename_i ho;obtain rfl:=inS h2;exact nE h1 (d4 ho);cases h2;cases h2;rename_i c _;split at h;rename_i x T hc ha hg;have hcc:c=⟨.builtin .len, #[x], #[T]⟩:=by
  obtain⟨c1,c2,c3⟩:=c;simp only at hc ha hg;subst hc;have e2:c2= #[x]:=by rw[<-ha]
  have e3:c3= #[T]:=by rw[<-hg]
  rw[e2,e3]
 obtain⟨z,h1,h2⟩:=bW h;unfold lenX at h2;split at h2;split at h2;rename_i hT;obtain rfl:=inS h2;exact kw hT hcc h1 (Le.refl _);cases h2;split at h2;rename_i hT ho;obtain rfl:=inS h2;exact bG hT hcc h1 (d4 ho);cases h2;split at h2;rename_i hT;obtain rfl:=inS h2;exact eI hT hcc h1;cases h2;split at h2;rename_i hT;obtain rfl:=inS h2;exact kw (es:=[]) hT hcc h1 Le.nil;cases h2;split at h2;rename_i hT ho;obtain rfl:=inS h2;exact ss hT hcc h1 ho;cases h2;cases h2;rename_i x y T1 T2 hc ha hg;have hcc:c=⟨.builtin .max, #[x,y], #[T1,T2]⟩:=by
  obtain⟨c1,c2,c3⟩:=c;simp only at hc ha hg;subst hc;have e2:c2= #[x,y]:=by rw[<-ha]
  have e3:c3= #[T1,T2]:=by rw[<-hg]
  rw[e2,e3]
 split at h;rename_i hx hy;have hk:=of_decide_eq_true (dw h).1;have h3:=(dw h).2;clear h;subst hk;obtain rfl:=inS h3;obtain⟨z,h1,h2⟩:=bW hx;rw[dy h2] at h1;obtain⟨z',g1,g2⟩:=bW hy;rw[dy g2] at g1;exact pX hcc h1 g1;cases h;rename_i x y T1 T2 hc ha hg;have hcc:c=⟨.builtin .min, #[x,y], #[T1,T2]⟩:=by
  obtain⟨c1,c2,c3⟩:=c;simp only at hc ha hg;subst hc;have e2:c2= #[x,y]:=by rw[<-ha]
  have e3:c3= #[T1,T2]:=by rw[<-hg]
  rw[e2,e3]
 split at h;rename_i hx hy;have hk:=of_decide_eq_true (dw h).1;have h3:=(dw h).2;clear h;subst hk;obtain rfl:=inS h3;obtain⟨z,h1,h2⟩:=bW hx;rw[dy h2] at h1;obtain⟨z',g1,g2⟩:=bW hy;rw[dy g2] at g1;exact pW hcc h1 g1;cases h;cases h;obtain⟨z,h1,h2⟩:=bW h;exact vA h1 h2;rename_i b T x y T' _ _;split at h;rename_i k p k' q hx hy;obtain⟨z,h1,h2⟩:=bW hx;rw[dy h2] at h1;obtain⟨z',g1,g2⟩:=bW hy;rw[dy g2] at g1;split at h;rename_i r' hr;obtain rfl:=inS h;cases b<;>simp only[shX] at hr<;>first|cases hr|skip
 obtain⟨h0,hr⟩:=dw hr;obtain rfl:=inS hr;exact wz h1 g1 (of_decide_eq_true h0) rfl;obtain⟨h0,hr⟩:=dw hr;obtain rfl:=inS hr;exact wy h1 g1 (of_decide_eq_true h0);obtain⟨hk,h⟩:=dw h;obtain rfl:=of_decide_eq_true hk;cases b<;>simp only[bitX] at h<;>first|cases h|skip
 obtain⟨h0,h⟩:=bifN h;obtain rfl:=inS h;exact dt h1 g1 (of_decide_eq_false h0) rfl;obtain⟨h0,h⟩:=bifN h;obtain rfl:=inS h;exact wA h1 g1 (of_decide_eq_false h0);exact wC h1 g1 rfl;exact uE h1 g1 rfl;exact y_xor h1 g1 rfl;split at h;rename_i hq;obtain rfl:=inS h;exact yb hq;exact vO h;obtain⟨z,h1,h2⟩:=bW h;unfold sU at h2;split at h2;split at h2;rename_i hT hl hhi;obtain⟨hc,h2⟩:=dw h2;obtain rfl:=inS h2;simp only[Bool.and_eq_true] at hc;exact pV hT h1 (Le.refl _) (nk hl) (nk hhi) (of_decide_eq_true hc.1) (of_decide_eq_true hc.2.1) (λe he=>nbE (List.all_eq_true.1 hc.2.2 e he));cases h2;cases h2;unfold b2X at h;split at h;rename_i hx hS hT;split at h;rename_i ho he;split at h;rename_i bs hb;obtain rfl:=inS h;exact y_b2s hS he hT hx (d4 ho) hb;cases h;cases h;cases h;exact xE h;exact yd h;unfold ug at h;split at h;rename_i pl zs xs hp hz hx;split at h;rename_i cs hf;obtain rfl:=inS h;exact sA hp hz hx hf;cases h;unfold qV at h;split at h;rename_i hp hz hx;split at h;rename_i cs hf;obtain rfl:=inS h;exact sB hp hz hx hf;cases h;cases h;split at h;rename_i hx hi hT;obtain⟨z,h1,h2⟩:=bW hi;rw[dy h2] at h1;split at h;rename_i hr;obtain rfl:=inS h;exact cX hT hx h1 hr;cases h;rename_i hx hi _;obtain⟨z,h1,h2⟩:=bW hi;rw[dy h2] at h1;exact xG hx h1 h;cases h;cases h
end
section
variable{P:Program}{env:Env}{st st':List AO}{dst:Option Tmp}{ty:TypeId}{pos:String}{after:Array Edge}{guard:Option (Nat×Bool)}
theorem oH{T:TypeId}{x y:Operand}{id ver off n T' k:Nat}{es es':List (List AV)}{r:AV}{rs:List AV}(hx:opv env x=some (.pe id ver off))(hs:st[id]? =some (.os T' k ver es))(hy:opv env y=some r)(hk:r.okS st=true)(hc:r.cells=rs)(hk1:rs.all (AV.ok1S st)=true)
  (hn:bt P T=some n)(hl:rs.length=n)(hlen:off+n<=es.flatten.length)(hes:es'.flatten=es.flatten.take off++rs++es.flatten.drop (off+n))(hel:es'.length=es.length)(hek:∀e∈es',e.length=k):
  Does P env st ⟨dst, .store T x y,ty,pos,after,guard⟩ (.d (.v undef)) (st.set id (.os T' k ver es')):=λm φ a w hsr he=>by
 obtain⟨b,len,cap,xs,g1,g2,g3,g4,g5,g6⟩:=jq hsr he hx hs;obtain⟨us,q1,q2⟩:=fx hsr (bd he hy) hk;rw[hc] at q2;have hul:=a9 q2;have hxl:=a9 g4;obtain⟨r1,r2⟩:=g3;rcases r2 with⟨hv,_⟩|⟨g,cap',cur,hv,p1,p2,p3,p4,p5,p6⟩
 cases hv;simp only[Value.slice.injEq,ay,Addr.mk.injEq,and_true] at hv;obtain⟨rfl,rfl,rfl⟩:=hv;have hcl:es.length*k<=cur.size:=by rw[p5];exact Nat.mul_le_mul_right _ p3
 have hfl:es.flatten.length=es.length*k:=oM;have hst:=run_storeCells_at P b off T' us 0 cur w p2 oM (je hsr q2 hk1);simp only[Nat.add_zero,hul,hl] at hst;have hsize:us.length=n:=oM;have hnew:RAs m φ w es'.flatten (xs.take off++us++xs.drop (off+n)):=by rw[hes];exact ba (ba (cq off g4) q2) (cx _ g4)
 have htk:((cur.toList.take off++us++cur.toList.drop (off+n)).toArray.toList).take (es.length*k)=xs.take off++us++xs.drop (off+n):=by rw[<-p6];apply List.ext_getElem?;intro j;have hcz:cur.toList.length=cur.size:=sM;simp only[List.getElem?_take,List.getElem?_append,List.length_append,List.length_take,List.getElem?_drop,hsize,hcz];rw[Nat.min_eq_left (show off<=cur.size by omega),Nat.min_eq_left (show es.length*k<=cur.size by omega),Nat.min_eq_left (show off<=es.length*k by omega)];by_cases h1:j<es.length*k;rw[if_pos h1];by_cases h2:j<off+n;rw[if_pos h2,if_pos h2];by_cases h3:j<off;simp only[if_pos h3,if_pos h1];simp only[if_neg h3];rw[if_neg h2,if_neg h2];have:off+n+(j - (off+n))=j:=oM;rw[this,if_pos h1];rw[if_neg h1,if_neg (show¬j<off+n by omega)];have:off+n+(j - (off+n))=j:=oM;rw[this,if_neg h1]
 obtain⟨k1,k2⟩:=pn hsr hs g1 hnew hel hek cur p2 (cur.toList.take off++us++cur.toList.drop (off+n)).toArray (by simp[hsize];omega) htk;refine⟨undef,_,m,φ, .inr ⟨?_,rfl⟩,k1,k2,RAv⟩;simp[execOp,Instr.storeAt,Instr.sureAddr,g2,storeVar,q1,aP hn,hsize,hst]
end
theorem Does.nil_os{P:Program}{env:Env}{st st':List AO}{o:Oper}{r:AV}(t T k:Nat)(ht:env.get t=some (.d (.v (.slice none 0 0))))(h:Does P ((t, .os st.length 0)::env) (st++ [.os T k 0 []]) o r st'):Does P env st o r st':=λm φ a w hs he=>by
 obtain⟨h1,h2⟩:=mI (T:=T) (k:=k) hs;have h3:EnvOk (m++ [.tok 0 (.slice none 0 0)]) φ w env a:=he.mono (Pre.append _ _) (Fz.refl φ w);have h4:EnvOk (m++ [.tok 0 (.slice none 0 0)]) φ w ((t, .os st.length 0)::env) a:=⟨λs x hx=>by
  unfold Env.get at hx;cases hb:Nat.beq s t with
  |true=>rw[hb] at hx;simp only[cdT,ay] at hx;subst hx;have:s=t:=nbE hb;subst this;obtain⟨v,g1,g2⟩:=he s _ ht;subst g2;refine⟨_,g1,?_⟩;exact⟨0,_,by rw[<-hs.len];simp,Nat.le_refl _,λ_=>rfl⟩
  |false=>rw[hb] at hx;exact h3 s x hx,h3.gl⟩
 obtain⟨v,w',m',φ',k1,k2,k3,k4⟩:=h _ φ a w h2 h4;exact⟨v,w',m',φ',k1,h1.trans k2,k3,k4⟩
def jE(k:Nat):Nat->List AV->List (List AV)
 |0,_=> []
 |n+1,xs=>xs.take k::jE k n (xs.drop k)
theorem mo(k:Nat):∀(n:Nat)(xs:List AV),xs.length=n*k->(jE k n xs).flatten=xs/\(jE k n xs).length=n/\∀e∈jE k n xs,e.length=k
 |0,xs,h=>by
  have:xs=[]:=by simp_all
  subst this;exact⟨rfl,rfl,λe he=>by cases he⟩
 |n+1,xs,h=>by
  have hk:k<=xs.length:=by grind
  obtain⟨h1,h2,h3⟩:=mo k n (xs.drop k) (by rw[List.length_drop,h,Nat.succ_mul];omega);grind [jE,List.take_append_drop]
theorem mh{k:Nat}:∀{es:List (List AV)},(∀e∈es,e.length=k)->es.flatten.length=es.length*k
 |[],_=>sM
 |e::es,h=>by
  rw[List.flatten_cons,List.length_append,mh (λe' he=>h e' (List.mem_cons_of_mem _ he)),h e List.mem_cons_self,List.length_cons,Nat.succ_mul];omega
def xn(st:List AO)(k:Nat):AV->Option (List (List AV))
 | .d (.sl ds)=>bif ds.all (λe=>Nat.beq e.length k) then some (ds.map λe=>e.map AV.d) else none
 | .os id ver=>match osA st id ver with
  |some (_,k',fs)=>bif Nat.beq k' k then some fs else none
  |none=>none
 | .d (.v (.slice none 0 0))=>some []
 |_=>none
theorem uN{st:List AO}{k:Nat}{x:AV}{fs:List (List AV)}(h:xn st k x=some fs):Src st x k fs:=by unfold xn at h;split at h;grind [Src.data,Le.refl,nbE];split at h;rename_i ho;obtain⟨hc,h⟩:=dw h;obtain rfl:=inS h;have e:=nbE hc;subst e;exact Src.own (d4 ho);cases h;obtain rfl:=inS h;exact Src.data (ds:=[]) Le.nil (λe he=>by cases he);cases h
def wq(P:Program)(env:Env)(st:List AO)(s x:Operand)(T:Nat):Option (AV×List AO):=
 match opv env s,opv env x,bR P T with
 |some (.os id ver),some xr,some (e,k,by_)=>(match osA st id ver,xn st k xr,aW P e with
  |some (e',k',es),some fs,some zs=>bif Nat.beq e' e&&(Nat.beq k' k&&(Nat.beq zs.length k&&(Nat.blt 0 k&&(fs.flatten.all (AV.ok1S st)&&(fs.all (λf=>Nat.beq f.length k)&&(decide (es.length+fs.length<=maxLen)&&decide ((es.length+fs.length)*by_<=140737488355328)))))))
   then dF (es++fs) (λes'=>some (.os id (ver+1),st.set id (.os e k (ver+1) es'))) else none
  |_,_,_=>none)
 |_,_,_=>none
def pm(P:Program)(env:Env)(st:List AO)(T:Nat)(x y:Operand):Option (AV×List AO):=
 match opv env x,opv env y,bt P T with
 |some (.pt id off),some r,some n=>(match st[id]? with
  |some (.row T' cs)=>bif r.okS st&&(r.cells.all (AV.ok1S st)&&(Nat.beq r.cells.length n&&Nat.ble (off+n) cs.length)) then dF (cs.take off++r.cells++cs.drop (off+n)) (λcs'=>some (.d (.v undef),st.set id (.row T' cs'))) else none
  |_=>none)
 |some (.pe id ver off),some r,some n=>(match osA st id ver with
  |some (T',k,es)=>bif r.okS st&&(r.cells.all (AV.ok1S st)&&(Nat.beq r.cells.length n&&(decide (off+n<=es.flatten.length)&&es.all λe=>Nat.beq e.length k)))
   then dF (es.flatten.take off++r.cells++es.flatten.drop (off+n)) (λfl=>dF (jE k es.length fl) λes'=>some (.d (.v undef),st.set id (.os T' k ver es'))) else none
  |none=>none)
 |_,_,_=>none
def mkX(P:Program)(env:Env)(st:List AO)(T:Nat)(x y:Operand):Option (AV×List AO):=
 match(opv env x).bind ju,(opv env y).bind ju,bR P T with
 |some (_,n),some (_,n'),some (e,k,by_)=>(match aW P e with
  |some zs=>bif decide (n=n')&&(Nat.beq zs.length k&&(Nat.blt 0 k&&dP by_ n)) then some (.os st.length 0,st++ [.os e k 0 (List.replicate n.toNat (zs.map λz=> .d (.v z)))]) else none
  |none=>none)
 |_,_,_=>none
def yi(P:Program)(env:Env)(st:List AO)(T len:Nat)(parts:Array (Nat×Operand)):Option (AV×List AO):=
 bif Nat.beq len 0&&parts.isEmpty then(match bR P T with
  |some (e,k,_)=>some (.os st.length 0,st++ [.os e k 0 []])
  |none=>none) else
 match bR P T,cw env (parts.toList.map (·.2)) with
 |some (e,k,_),some xs=>(match aW P e with
  |some zs=>bif Nat.beq zs.length k&&(decide (len*k<=16777216)&&(Nat.blt 0 (len*k)&&(decide (parts.toList.map (·.1)=List.range len)&&((xs.all λx=>x.okS st&&Nat.beq x.cells.length k)&&decide (len<=maxLen)))))
   then some (.os st.length 0,st++ [.os e k 0 (xs.map AV.cells)]) else none
  |none=>none)
 |_,_=>none
def appN(P:Program)(env:Env)(st:List AO)(s x:Operand)(T:Nat):Option (AV×List AO):=
 match s with
 | .tmp t=>(match env.get t,bR P T with
  |some (.d (.v (.slice none 0 0))),some (e,k,_)=>wq P ((t, .os st.length 0)::env) (st++ [.os e k 0 []]) s x T
  |_,_=>none)
 |_=>none
def xx(P:Program)(env:Env)(st:List AO)(T:Nat)(x:Operand)(hi:Operand):Option (AV×List AO):=
 match opv env x,aZ P T,uh env (some hi) 0 with
 |some (.os id ver),some (k,_),some h=>(match osA st id ver with
  |some (e,k',es)=>bif Nat.beq k k'&&Nat.ble h es.length then some (.os id (ver+1),st.set id (.os e k (ver+1) (es.take h))) else none
  |none=>none)
 |_,_,_=>none
def xW(P:Program)(env:Env)(st:List AO):Op->Option (AV×List AO)
 | .box T x=>match opv env x with
  |some r=>bif r.okS st then some (.pt st.length 0,st++ [.row T r.cells]) else none
  |none=>none
 | .alloc T=>match aW P T with
  |some vs=>some (.pt st.length 0,st++ [.row T (vs.map λv=> .d (.v v))])
  |none=>none
 | .store T x y=>pm P env st T x y
 | .makeSlice T x y=>mkX P env st T x y
 | .buildSlice T len parts=>yi P env st T len parts
 | .makeMap _ none=>some (.mp st.length,st++ [.mb [] [] 0])
 | .insert T x ki v=>muX P env st T x ki v
 | .mapUpdate T x ki v=>muX P env st T x ki v
 | .range T x=>rgX P env st T x
 | .slice T x none (some hi) none=>xx P env st T x hi
 | .call c=>(match c.callee,c.args.toList,c.argTypes.toList with
  | .builtin .append,[s,x],[T,T']=>bif Nat.beq T T' then(match wq P env st s x T with
   |some r=>some r
   |none=>appN P env st s x T) else none
  |_,_,_=>none)
 |_=>none
def exD(P:Program)(env:Env)(st:List AO)(op:Op):Option (AV×List AO):=match xW P env st op with
 |some (r,s)=>dF s λs'=>some (r,s')
 |none=>none
section
variable{P:Program}{env:Env}{st st':List AO}{dst:Option Tmp}{ty:TypeId}{pos:String}{after:Array Edge}{guard:Option (Nat×Bool)}
theorem ry{T:Nat}{x y:Operand}{r:AV}(h:pm P env st T x y=some (r,st')):Does P env st ⟨dst, .store T x y,ty,pos,after,guard⟩ r st':=by
 unfold pm at h;split at h;grind [dK,ub,nbE];rename_i id ver off r0 n hx hy hn;split at h;rename_i T' k es ho;obtain⟨hc,h⟩:=dw h;rw[dK,dK] at h;obtain⟨rfl,rfl⟩:=h;simp only[Bool.and_eq_true,decide_eq_true_eq] at hc;obtain⟨c1,c2,c3,c4,c5⟩:=hc;have c3:=nbE c3;have hk:∀e∈es,e.length=k:=by grind [nbE]
 have hf:=mh hk;obtain⟨q1,q2,q3⟩:=mo k es.length (es.flatten.take off++r0.cells++es.flatten.drop (off+n)) (by
  rw[List.length_append,List.length_append,List.length_take,List.length_drop,c3,<-hf];omega)
 exact oH hx (d4 ho) hy c1 rfl c2 hn c3 c4 q1 q2 q3;cases h;cases h
theorem xB{T:Nat}{x y:Operand}{r:AV}(h:mkX P env st T x y=some (r,st')):Does P env st ⟨dst, .makeSlice T x y,ty,pos,after,guard⟩ r st':=by unfold mkX at h;split at h;rename_i hx hy hT;split at h;rename_i hz;obtain⟨hc,h⟩:=dw h;obtain⟨rfl,rfl⟩:=h;simp only[Bool.and_eq_true,decide_eq_true_eq] at hc;obtain⟨rfl,c1,c2,c3⟩:=hc;obtain⟨z,h1,h2⟩:=bW hx;rw[dy h2] at h1;obtain⟨z',g1,g2⟩:=bW hy;rw[dy g2] at g1;exact(bj hT hz (nbE c1) (nbT c2) h1 g1 c3).b.does;cases h;cases h
theorem wj{T len:Nat}{parts:Array (Nat×Operand)}{r:AV}(h:yi P env st T len parts=some (r,st')):Does P env st ⟨dst, .buildSlice T len parts,ty,pos,after,guard⟩ r st':=by
 unfold yi at h;cases h0:Nat.beq len 0&&parts.isEmpty with
 |true=>
  rw[Bool.and_eq_true] at h0;have e0:=nbE h0.1;have e1:parts= #[]:=by simpa using h0.2
  subst e0;subst e1;split at h;rename_i hT;obtain⟨rfl,rfl⟩:=h;exact(oa hT).b.does;cases h
 |false=>
 rw[h0,cdF] at h;split at h;rename_i hT hx;split at h;rename_i hz;obtain⟨hc,h⟩:=dw h;obtain⟨rfl,rfl⟩:=h;simp only[Bool.and_eq_true,decide_eq_true_eq] at hc;obtain⟨c1,c2,c3,c4,c5,c6⟩:=hc;exact(aX hT hz (nbE c1) c2 (nbT c3) c4 hx c5 c6).b.does;cases h;cases h
theorem q7{T:Nat}{s x:Operand}{c:Call}{r:AV}(hcc:c=⟨.builtin .append, #[s,x], #[T,T]⟩)(h2:wq P env st s x T=some (r,st')):Does P env st ⟨dst, .call c,ty,pos,after,guard⟩ r st':=by unfold wq at h2;split at h2;rename_i hs hx hT;split at h2;rename_i ho hsrc hz;obtain⟨hc',h3⟩:=dw h2;rw[dK] at h3;obtain⟨rfl,rfl⟩:=h3;simp only[Bool.and_eq_true,decide_eq_true_eq] at hc';obtain⟨c1,c2,c3,c4,c5,c6,c7,c8⟩:=hc';have c1:=nbE c1;have c2:=nbE c2;subst c1 c2;exact rY (_T':=0) hT hz (nbE c3) (nbT c4) hcc hs (d4 ho) hx (uN hsrc) c5 (λf hf=>nbE (List.all_eq_true.1 c6 f hf)) c7 c8;cases h2;cases h2
theorem uR{T:Nat}{x hi:Operand}{r:AV}(h:xx P env st T x hi=some (r,st')):Does P env st ⟨dst, .slice T x none (some hi) none,ty,pos,after,guard⟩ r st':=by
 unfold xx at h;split at h;rename_i id ver k bb n hx hT hb;split at h;rename_i e k' es ho;obtain⟨hc,h⟩:=dw h;obtain⟨rfl,rfl⟩:=h;rw[Bool.and_eq_true] at hc;have hk:=nbE hc.1;subst hk;have hbd:Bnd env (some hi) es.length n:=by have:=nk hb;exact this
 grind [d_pop,d4,nbT];cases h;cases h
theorem vL{op:Op}{r:AV}(h:xW P env st op=some (r,st')):Does P env st ⟨dst,op,ty,pos,after,guard⟩ r st':=by
 unfold xW at h;split at h;split at h;rename_i hx;obtain⟨hc,h⟩:=dw h;obtain⟨rfl,rfl⟩:=h;exact(yk hx hc).does;cases h;split at h;rename_i hz;obtain⟨rfl,rfl⟩:=h;exact(qY hz).does;cases h;exact ry h;exact xB h;exact wj h;grind [td.does];grind [s8];exact s8 (.inr rfl) h;exact xo h;exact uR h;rename_i c;split at h;rename_i s x T T' hc ha hg;have hTT:=(dw h).1;have h2:=(dw h).2;clear h;obtain rfl:=nbE hTT;have hcc:c=⟨.builtin .append, #[s,x], #[T,T]⟩:=by
  obtain⟨c1,c2,c3⟩:=c;subst hc;have e2:c2= #[s,x]:=by rw[<-ha]
  have e3:c3= #[T,T]:=by rw[<-hg]
  rw[e2,e3]
 split at h2;grind [q7];unfold appN at h2;grind [Does.nil_os,q7];cases h;cases h
theorem ng{op:Op}{r:AV}(h:exD P env st op=some (r,st')):Does P env st ⟨dst,op,ty,pos,after,guard⟩ r st':=by grind [exD,dK,vL]
end
abbrev cg:=FuncId->List AV->List AO->Option (AV×List AO)
def cW(P:Program)(call:cg):Prop:=∀f asz st r st',call f asz st=some (r,st')->Ctr P f asz st (λr' s'=>r'=r/\s'=st')
def iJ(nt:Nat)(o:Oper)(env:Env)(r:AV)(st:List AO):Option (Env×List AO):=match o.dst with
 |some d=>bif Nat.ble (d+1) nt then some ((d,r)::env,st) else none
 |none=>some (env,st)
def nilX(P:Program)(env:Env)(st:List AO):Op->Option (Env×List AO)
 | .call c=>(match c.args.toList,c.argTypes.toList with
  |[.tmp s,_],[T,_]=>(match env.get s,bR P T with
   |some (.d (.v (.slice none 0 0))),some (e,k,_)=>some ((s, .os st.length 0)::env,st++ [.os e k 0 []])
   |_,_=>none)
  |_,_=>none)
 |_=>none
def qU(call:cg)(env:Env)(st:List AO):Op->Option (AV×List AO)
 | .call c=>(match c.callee with
  | .value x=>(match opv env x,cw env c.args.toList with
   |some (.fn (.func f) first caps),some asz=>call f (first++asz++caps) st
   |_,_=>none)
  |_=>none)
 |_=>none
abbrev ld:=Nat->List AV->List AO->Option (AV×List AO)
def oS(P:Program)(yld:ld):Prop:=∀id asz st r st',yld id asz st=some (r,st')->∀(e:En)(ops:Array Oper)(rest:List Oper)(o:Oper)(env:Env)(R:Env->List AO->Prop)(c:Call)(x:Operand)(d:Nat),
 o.op= .call c->c.callee= .value x->opv env x=some (.yl id)->cw env c.args.toList=some asz->Wt ops env o true->o.dst=some d->Nat.ble (d+1) e.n=true->WL P e ops rest ((d,r)::env) st' R->WL P e ops (o::rest) env st R
def ylX(yld:ld)(env:Env)(st:List AO):Op->Option (AV×List AO)
 | .call c=>(match c.callee with
  | .value x=>(match opv env x,cw env c.args.toList with
   |some (.yl id),some asz=>yld id asz st
   |_,_=>none)
  |_=>none)
 |_=>none
def exE(P:Program)(t:Ty)(nt:Nat)(call:cg)(yld:ld)(ops:Array Oper)(env:Env)(st:List AO)(o:Oper):Option (Env×List AO):=
 match iE ops env o.guard with
 |none=>none
 |some false=>iJ nt o env (.d (.v undef)) st
 |some true=>match exY P t env st o.op with
  |some r=>(match o.dst with
   |some _=>iJ nt o env r st
   |none=>none)
  |none=>(match exD P env st o.op with
   |some (r,st')=>iJ nt o env r st'
   |none=>(match qU call env st o.op with
    |some (r,st')=>(match o.dst with
     |some _=>iJ nt o env r st'
     |none=>none)
    |none=>(match nilX P env st o.op with
     |some (env1,st1)=>(match iE ops env1 o.guard,exD P env1 st1 o.op with
      |some true,some (r,st')=>iJ nt o env1 r st'
      |_,_=>none)
     |none=>(match ylX yld env st o.op with
      |some (r,st')=>(match o.dst with
       |some _=>iJ nt o env r st'
       |none=>none)
      |none=>none))))
abbrev fa:=Oper->Env->List AO->Option (Env×List AO)
def jL(hook:fa):Prop:=∀(e:En) o env st env' st',hook o env st=some (env',st')->Gh e env st env' st'
def exL(P:Program)(t:Ty)(nt:Nat)(call:cg)(yld:ld)(hook:fa)(ops:Array Oper):List Oper->Env->List AO->Option (Env×List AO)
 |[],env,st=>some (env,st)
 |o::l,env,st=>match hook o env st with
  |some (env1,st1)=>(match exE P t nt call yld ops env1 st1 o with
   |some (env',st')=>exL P t nt call yld hook ops l env' st'
   |none=>none)
  |none=>(match exE P t nt call yld ops env st o with
   |some (env',st')=>exL P t nt call yld hook ops l env' st'
   |none=>none)
section
variable{P:Program}{t:Ty}{nt:Nat}{call:cg}{yld:ld}{e:En}{ops:Array Oper}{l:List Oper}{R:Env->List AO->Prop}{env env':Env}{st st':List AO}
theorem wS{o:Oper}{r:AV}(hw:Wt ops env o true)(hy:Does P env st o r st')(hn:e.n=nt)(hp:iJ nt o env r st'=some (env',st'))(k:WL P e ops l env' st' R):WL P e ops (o::l) env st R:=by unfold iJ at hp;grind [WL.s,WL.s0]
theorem qo{o:Oper}{r:AV}{s:List AO}(h:iJ nt o env r s=some (env',st')):st'=s:=by grind [iJ]
theorem tZ(ht:t.ok P=true)(hc:cW P call)(hyl:oS P yld)(hn:e.n=nt){o:Oper}(h:exE P t nt call yld ops env st o=some (env',st'))(k:WL P e ops l env' st' R):WL P e ops (o::l) env st R:=by
 unfold exE at h;split at h;cases h;rename_i hw;unfold iJ at h;split at h;grind [WL.skip,dG];grind [WL.skip0,dG];rename_i hw;have hw:=dA hw;split at h;rename_i r hr;split at h;rename_i d hd;unfold iJ at h;rw[hd] at h;obtain⟨hb,h⟩:=dw h;obtain⟨rfl,rfl⟩:=h;exact WL.q (tW ht hr) hw hd (by rw[hn];exact hb) k;cases h;split at h;rename_i r s hr;obtain rfl:=qo h;exact wS hw (ng hr) hn h k;split at h;rename_i r s hr;split at h;rename_i d hd;unfold iJ at h;rw[hd] at h;obtain⟨hb,h⟩:=dw h;simp only[ay,Prod.mk.injEq] at h;obtain⟨rfl,rfl⟩:=h;unfold qU at hr;split at hr;rename_i c hop;split at hr;rename_i x hx;split at hr;rename_i f first caps asz hf has
 refine WL.call (Q:=λr' s'=>r'=r/\s'=s) hop hx hf has (hc _ _ _ _ _ hr) (Les.refl _) hw hd (by rw[hn];exact hb) λr' s' hq=>?_;grind;cases hr;cases hr;cases hr;cases h;split at h;rename_i env1 st1 h1;split at h;rename_i r s hw1 hr;obtain rfl:=qo h;unfold nilX at h1;split at h1;split at h1;split at h1;rename_i T1 k1 _ hg he;obtain⟨rfl,rfl⟩:=h1;refine WL.nil_os _ T1 k1 hg ?_;exact wS (dA hw1) (ng hr) hn h k;cases h1;cases h1;cases h1;cases h;split at h;rename_i r s hr;split at h;rename_i d hd;unfold iJ at h;rw[hd] at h;obtain⟨hb,h⟩:=dw h;obtain⟨rfl,rfl⟩:=h;unfold ylX at hr;split at hr;rename_i c hop;split at hr;rename_i x hx;split at hr;rename_i id asz hf has;exact hyl _ _ _ _ _ hr _ _ _ _ _ _ _ _ _ hop hx hf has hw hd (by rw[hn];exact hb) k;cases hr;cases hr;cases hr;cases h;cases h
theorem jB(ht:t.ok P=true)(hc:cW P call)(hyl:oS P yld){hook:fa}(hh:jL hook)(hn:e.n=nt):∀{l:List Oper}{env:Env}{st:List AO},exL P t nt call yld hook ops l env st=some (env',st')->R env' st'->WL P e ops l env st R
 |[],env,st,h,k=>by
  grind [exL,WL.nil]
 |o::l,env,st,h,k=>by
  unfold exL at h;split at h;rename_i hk;split at h;rename_i hs;exact(hh e _ _ _ _ _ hk).wl (tZ ht hc hyl hn hs (jB ht hc hyl hh hn h k));cases h;split at h;rename_i hs;exact tZ ht hc hyl hn hs (jB ht hc hyl hh hn h k);cases h
end
def eqV:Value->Value->Bool
 | .int k a, .int k' b=>decide (k=k')&&decide (a=b)
 | .bool a, .bool b=>a==b
 | .slice none 0 0, .slice none 0 0=>true
 | .pointer none, .pointer none=>true
 | .map none, .map none=>true
 | .tuple a, .tuple b=>a.toList.isEmpty&&b.toList.isEmpty
 | .string a, .string b=>a.data.toList==b.data.toList
 |_,_=>false
theorem t3:∀{a b:Value},eqV a b=true->a=b:=by
 intro a b h;unfold eqV at h;split at h;simp_all;simp_all;rfl;rfl;rfl;simp_all;rename_i a b;rw[beq_iff_eq] at h;have:a=b:=by obtain⟨⟨a⟩⟩:=a;obtain⟨⟨b⟩⟩:=b;simp_all
 rw[this];cases h
mutual
def eqD:D->D->Bool
 | .v a, .v b=>eqV a b
 | .sl a, .sl b=>eqDss a b
 | .pc a, .pc b=>eqDs a b
 | .ag a, .ag b=>eqDs a b
 | .tu a, .tu b=>eqDs a b
 |_,_=>false
def eqDs:List D->List D->Bool
 |[],[]=>true
 |x::a,y::b=>eqD x y&&eqDs a b
 |_,_=>false
def eqDss:List (List D)->List (List D)->Bool
 |[],[]=>true
 |x::a,y::b=>eqDs x y&&eqDss a b
 |_,_=>false
end
mutual
theorem t4:∀{a b:D},eqD a b=true->a=b
 | .v a,b,h=>by
  cases b<;>first|(simp only[eqD] at h;rw[t3 h])|simp[eqD] at h
 | .sl a,b,h=>by
  cases b<;>first|(simp only[eqD] at h;rw[eqDss_ok h])|simp[eqD] at h
 | .pc a,b,h=>by
  cases b<;>first|(simp only[eqD] at h;rw[eqDs_ok h])|simp[eqD] at h
 | .ag a,b,h=>by
  cases b<;>first|(simp only[eqD] at h;rw[eqDs_ok h])|simp[eqD] at h
 | .tu a,b,h=>by
  cases b<;>first|(simp only[eqD] at h;rw[eqDs_ok h])|simp[eqD] at h
 | .ifc t a,b,h=>by simp[eqD] at h
 | .fnc f a c,b,h=>by simp[eqD] at h
theorem eqDs_ok:∀{a b:List D},eqDs a b=true->a=b
 |[],b,h=>by cases b with
  |nil=>rfl
  |cons y b=>simp[eqDs] at h
 |x::a,b,h=>by cases b with
  |nil=>simp[eqDs] at h
  |cons y b=>simp only[eqDs,Bool.and_eq_true] at h;rw[t4 h.1,eqDs_ok h.2]
theorem eqDss_ok:∀{a b:List (List D)},eqDss a b=true->a=b
 |[],b,h=>by cases b with
  |nil=>rfl
  |cons y b=>simp[eqDss] at h
 |x::a,b,h=>by cases b with
  |nil=>simp[eqDss] at h
  |cons y b=>simp only[eqDss,Bool.and_eq_true] at h;rw[eqDs_ok h.1,eqDss_ok h.2]
end
mutual
def rT:AV->AV->Bool
 | .u, .u=>true
 | .d a, .d b=>eqD a b
 | .pt i o, .pt j p=>Nat.beq i j&&Nat.beq o p
 | .os i o, .os j p=>Nat.beq i j&&Nat.beq o p
 | .pe i v o, .pe j u p=>Nat.beq i j&&(Nat.beq v u&&Nat.beq o p)
 | .ag a, .ag b=>eqAVs a b
 | .tu a, .tu b=>eqAVs a b
 | .mp i, .mp j=>Nat.beq i j
 | .fn (.func f) a c, .fn (.func g) b d=>Nat.beq f g&&(eqAVs a b&&eqAVs c d)
 |_,_=>false
def eqAVs:List AV->List AV->Bool
 |[],[]=>true
 |x::a,y::b=>rT x y&&eqAVs a b
 |_,_=>false
end
mutual
theorem kj:∀{a b:AV},rT a b=true->a=b:=by intro a b h;unfold rT at h;split at h;rfl;rw[t4 h];simp only[Bool.and_eq_true] at h;rw[nbE h.1,nbE h.2];simp only[Bool.and_eq_true] at h;rw[nbE h.1,nbE h.2];simp only[Bool.and_eq_true] at h;rw[nbE h.1,nbE h.2.1,nbE h.2.2];rw[eqAVs_ok h];rw[eqAVs_ok h];rw[nbE h];simp only[Bool.and_eq_true] at h;rw[nbE h.1,eqAVs_ok h.2.1,eqAVs_ok h.2.2];cases h
theorem eqAVs_ok:∀{a b:List AV},eqAVs a b=true->a=b:=by intro a b h;unfold eqAVs at h;split at h;rfl;simp only[Bool.and_eq_true] at h;rw[kj h.1,eqAVs_ok h.2];cases h
end
theorem wR{c a:Bool}(h:(bif c then a else false)=true):c=true/\a=true:=by cases c;cases h;exact⟨rfl,h⟩
def vQ:List (Value×Nat)->List (Value×Nat)->Bool
 |[],[]=>true
 |x::xs,y::ys=>eqV x.1 y.1&&(Nat.beq x.2 y.2&&vQ xs ys)
 |_,_=>false
theorem qK:∀{a b:List (Value×Nat)},vQ a b=true->a=b
 |[],[],_=>rfl
 |(x,n)::xs,(y,k)::ys,h=>by
  simp only[vQ,Bool.and_eq_true] at h;rw[t3 h.1,nbE h.2.1,qK h.2.2]
 |[],_::_,h=>by cases h
 |_::_,[],h=>by cases h
def vP:List Nat->List Nat->Bool
 |[],[]=>true
 |x::xs,y::ys=>Nat.beq x y&&vP xs ys
 |_,_=>false
theorem qJ:∀{a b:List Nat},vP a b=true->a=b
 |[],[],_=>rfl
 |x::xs,y::ys,h=>by
  simp only[vP,Bool.and_eq_true] at h;rw[nbE h.1,qJ h.2]
 |[],_::_,h=>by cases h
 |_::_,[],h=>by cases h
def eqq(x y:AV):Bool:=match x,y with
 | .d (.v (.int k a)), .d (.v (.int k' b))=>bif decide (k=k') then decide (a=b) else false
 | .os i o, .os j p=>Nat.beq i j&&Nat.beq o p
 |x,y=>rT x y
theorem xY{x y:AV}(h:eqq x y=true):x=y:=by unfold eqq at h;split at h;grind;grind [nbE];exact kj h
def rS:List AV->List AV->Bool
 |[],[]=>true
 |x::xs,y::ys=>bif eqq x y then rS xs ys else false
 |_,_=>false
theorem nh:∀{a b:List AV},rS a b=true->a=b
 |[],[],_=>rfl
 |x::xs,y::ys,h=>by
  obtain⟨h1,h2⟩:=wR (show(bif eqq x y then rS xs ys else false)=true from h);rw[xY h1,nh h2]
 |[],_::_,h=>by cases h
 |_::_,[],h=>by cases h
def qI:List (List AV)->List (List AV)->Bool
 |[],[]=>true
 |x::xs,y::ys=>bif rS x y then qI xs ys else false
 |_,_=>false
theorem oF:∀{a b:List (List AV)},qI a b=true->a=b
 |[],[],_=>rfl
 |x::xs,y::ys,h=>by
  obtain⟨h1,h2⟩:=wR (show(bif rS x y then qI xs ys else false)=true from h);rw[nh h1,oF h2]
 |[],_::_,h=>by cases h
 |_::_,[],h=>by cases h
def yc:AO->AO->Bool
 | .row T cs, .row T' cs'=>Nat.beq T T'&&rS cs cs'
 | .os T k v es, .os T' k' v' es'=>Nat.beq T T'&&(Nat.beq k k'&&(Nat.beq v v'&&qI es es'))
 | .mb es xs c, .mb es' xs' c'=>Nat.beq c c'&&(vQ es es'&&eqAVs xs xs')
 | .it s a b c, .it s' a' b' c'=>rT s s'&&(Nat.beq a a'&&(Nat.beq c c'&&vP b b'))
 | .dead, .dead=>true
 |_,_=>false
theorem vR{a b:AO}(h:yc a b=true):a=b:=by unfold yc at h;split at h;rw[Bool.and_eq_true] at h;rw[nbE h.1,nh h.2];simp only[Bool.and_eq_true] at h;rw[nbE h.1,nbE h.2.1,nbE h.2.2.1,oF h.2.2.2];simp only[Bool.and_eq_true] at h;rw[nbE h.1,qK h.2.1,eqAVs_ok h.2.2];simp only[Bool.and_eq_true] at h;rw[kj h.1,nbE h.2.1,nbE h.2.2.1,qJ h.2.2.2];rfl;cases h
def jW:List AO->List AO->Bool
 |[],[]=>true
 |x::xs,y::ys=>yc x y&&jW xs ys
 |_,_=>false
theorem iW:∀{a b:List AO},jW a b=true->a=b
 |[],[],_=>rfl
 |x::xs,y::ys,h=>by
  simp only[jW,Bool.and_eq_true] at h;rw[vR h.1,iW h.2]
 |[],_::_,h=>by cases h
 |_::_,[],h=>by cases h
theorem mZ{F:Env}:∀{env:Env}{t:Nat}{x:AV},env.get t=some x->(env++F).get t=some x
 |[],t,x,h=>by cases h
 |(k,v)::env,t,x,h=>by
  show(bif Nat.beq t k then some v else Env.get (env++F) t)=some x;have h:(bif Nat.beq t k then some v else Env.get env t)=some x:=h;cases hb:Nat.beq t k with
  |true=>grind
  |false=>rw[hb] at h;exact mZ h
theorem EnvOk.app{m:List Cz}{φ:Nat->Nat}{w:World}{env F:Env}{a:Act}(h:EnvOk m φ w (env++F) a):EnvOk m φ w env a:=⟨λt x hx=>h.get t x (mZ hx),h.gl⟩
theorem mR{env F:Env}{x:Operand}{r:AV}(h:opv env x=some r):opv (env++F) x=some r:=by
 cases x with
 |tmp t=>exact mZ h
 |_=>exact h
section
variable{P:Program}{env F:Env}{st st':List AO}{o:Oper}{r:AV}
theorem Yields.app(h:Yields P env st o r):Yields P (env++F) st o r:=λm φ a w hs he=>h m φ a w hs he.app
theorem Does.app(h:Does P env st o r st'):Does P (env++F) st o r st':=λm φ a w hs he=>h m φ a w hs he.app
end
theorem kK{env F:Env}:∀{l:List Operand}{xs:List AV},cw env l=some xs->cw (env++F) l=some xs
 |[],xs,h=>h
 |x::l,xs,h=>by
  unfold cw at h⊢;split at h;rename_i h1 h2;rw[mR h1,kK h2];exact h;cases h
theorem Wt.app{ops:Array Oper}{env F:Env}{o:Oper}{b:Bool}(h:Wt ops env o b):Wt ops (env++F) o b:=λm φ w a he=>h m φ w a he.app
def kG(o:Oper)(r:AV)(env:Env):Env:=match o.dst with
 |some d=>(d,r)::env
 |none=>env
class PC(P:Program) where
 pc:FuncId->List AV->Option AV
 ok:∀f asz r st,pc f asz=some r->Ctr P f asz st (λr' s'=>r'=r/\s'=st)
def purX(P:Program)[PC P](env:Env):Op->Option AV
 | .call c=>(match c.callee with
  | .value x=>(match opv env x,cw env c.args.toList with
   |some (.fn (.func f) first caps),some asz=>PC.pc P f (first++asz++caps)
   |_,_=>none)
  |_=>none)
 |_=>none
def exP(P:Program)[PC P](t:Ty)(ops:Array Oper)(env:Env)(st:List AO)(o:Oper):Option AV:=
 match iE ops env o.guard with
 |none=>none
 |some false=>some (.d (.v undef))
 |some true=>match exY P t env st o.op with
  |some r=>(match o.dst with
   |some _=>some r
   |none=>none)
  |none=>(match purX P env o.op with
   |some r=>(match o.dst with
    |some _=>some r
    |none=>none)
   |none=>none)
def oE(P:Program)[PC P](t:Ty)(call:cg)(ops:Array Oper)(env:Env)(st:List AO)(o:Oper):Option (AV×List AO):=
 match exP P t ops env st o with
 |some r=>some (r,st)
 |none=>match iE ops env o.guard with
  |some true=>(match exD P env st o.op with
   |some rs=>some rs
   |none=>(match qU call env st o.op,o.dst with
    |some rs,some _=>some rs
    |_,_=>none))
  |_=>none
section
variable{P:Program}[PC P]{t:Ty}{call:cg}{e:En}{ops:Array Oper}{l:List Oper}{R:Env->List AO->Prop}{env F:Env}{st st':List AO}{o:Oper}{r:AV}
theorem tX(ht:t.ok P=true)(hd:∀d,o.dst=some d->Nat.ble (d+1) e.n=true)(h:exP P t ops env st o=some r)(k:WL P e ops l (kG o r (env++F)) st R):WL P e ops (o::l) (env++F) st R:=by
 unfold exP at h;split at h;cases h;rename_i hw;obtain rfl:=inS h;unfold kG at k;split at k;rename_i d hdd;exact WL.skip (dG hw).app hdd (hd d hdd) k;rename_i hdd;exact WL.skip0 (dG hw).app hdd k;rename_i hw;split at h;rename_i r' hr;split at h;rename_i d hdd;obtain rfl:=inS h;unfold kG at k;rw[hdd] at k;exact WL.q (tW ht hr).app (dA hw).app hdd (hd d hdd) k;cases h;split at h;rename_i r' hr;split at h;rename_i d hdd;obtain rfl:=inS h;unfold kG at k;rw[hdd] at k;unfold purX at hr;split at hr;rename_i c hop;split at hr;rename_i x hx;split at hr;rename_i f first caps asz hf has
 refine WL.call (Q:=λa b=>a=r'/\b=st) hop hx (mR hf) (kK has) (PC.ok _ _ _ _ hr) (Les.refl _) (dA hw).app hdd (hd d hdd) λa b hq=>?_;grind;cases hr;cases hr;cases hr;cases h;cases h
theorem qH(ht:t.ok P=true)(hc:cW P call)(hd:∀d,o.dst=some d->Nat.ble (d+1) e.n=true)(h:oE P t call ops env st o=some (r,st'))(k:WL P e ops l (kG o r (env++F)) st' R):WL P e ops (o::l) (env++F) st R:=by
 unfold oE at h;split at h;grind [tX];split at h;rename_i hw;have hw:=(dA hw).app (F:=F);split at h;rename_i rs hr;obtain rfl:=inS h;unfold kG at k;split at k;rename_i d hdd;exact WL.s (ng hr).app hw hdd (hd d hdd) k;rename_i hdd;exact WL.s0 (ng hr).app hw hdd k;split at h;rename_i rs d hr hdd;obtain rfl:=inS h;unfold kG at k;rw[hdd] at k;unfold qU at hr;split at hr;rename_i c hop;split at hr;rename_i x hx;split at hr;rename_i f first caps asz hf has
 refine WL.call (Q:=λr' s'=>r'=r/\s'=st') hop hx (mR hf) (kK has) (hc _ _ _ _ _ hr) (Les.refl _) hw hdd (hd d hdd) λr' s' hq=>?_;grind;cases hr;cases hr;cases hr;cases h;cases h
end
def opT:List Operand->List Nat
 |[]=> []
 | .tmp t::l=>t::opT l
 |_::l=>opT l
def opsOf:Op->List Operand
 | .move x=> [x]
 | .assign x=> [x]
 | .pick c x y=> [c,x,y]
 | .load _ x=> [x]
 | .fieldAddr _ x _=> [x]
 | .field _ x _=> [x]
 | .nilCheck x=> [x]
 | .extract x _=> [x]
 | .unOp _ _ x=> [x]
 | .binOp _ _ x y _=> [x,y]
 | .convert _ _ x=> [x]
 | .makeFunc _ a b=>a.toList++b.toList
 | .indexAddr _ x y=> [x,y]
 | .index _ x y=> [x,y]
 | .box _ x=> [x]
 | .store _ x y=> [x,y]
 | .makeSlice _ x y=> [x,y]
 | .buildSlice _ _ ps=>ps.toList.map (·.2)
 | .build _ ps=>ps.toList.map (·.2)
 | .lookup _ x k _=> [x,k]
 | .insert _ x k v=> [x,k,v]
 | .mapUpdate _ x k v=> [x,k,v]
 | .range _ x=> [x]
 | .entry x=> [x]
 | .slice _ x lo hi _=>x::(lo.toList++hi.toList)
 | .call c=>(match c.callee with
  | .value x=>x::c.args.toList
  |_=>c.args.toList)
 |_=> []
def qx(l:List Oper)(x:Nat):Nat->Nat->Option Nat->Option Nat
 |0,_,acc=>acc
 |n+1,j,acc=>qx l x n (j+1) (match l[j]? with
  |some o=>bif o.dst==some x then some j else acc
  |none=>acc)
def fJ(l:List Oper)(k:Nat):List Nat->List Nat×List Nat
 |[]=>([],[])
 |x::xs=>match qx l x k 0 none with
  |some j=>(j::(fJ l k xs).1,(fJ l k xs).2)
  |none=>((fJ l k xs).1,x::(fJ l k xs).2)
def dB(l:List Oper)(o:Oper):List Nat:=(match o.guard with
 |some (j,_)=>(match(l[j]?).bind (·.dst) with
  |some d=> [d]
  |none=> [])
 |none=> [])++opT (opsOf o.op)
def csX(tc:List (List Nat))(es:List Nat)(k:Nat):List Nat:=(List.range (es.length+1)).filter λc=>
 !(match es[c]? with
  |some y=>(tc.getD k []).contains y
  |none=>false)&& !((es.take c).any λy=>Nat.beq y k||(tc.getD y []).contains k)
def gU(l:List Oper)(tc:List (List Nat))(es:List Nat):Nat->List Oper->List (List Nat×List Nat×List Nat)
 |_,[]=> []
 |k,o::ol=>let p:=fJ l k (dB l o);(p.1,p.2,csX tc es k)::gU l tc es (k+1) ol
def tO:Op->Bool
 | .call _=>true
 |_=>false
def okR(o:Oper)(rs:List AV)(k:Nat)(r:AV):Bool:=match o.dst with
 |some _=>(match rs[k]? with
  |some r'=>rT r r'
  |none=>false)
 |none=>true
section
variable{P:Program}[PC P]{t:Ty}{nt:Nat}{call:cg}{e:En}{l:List Oper}{rs:List AV}{base:Env}{es:List Nat}{L:List (List AO)}
theorem qM{ops:Array Oper}{env:Env}{st' stc:List AO}{o:Oper}{k:Nat}{r:AV}(hr:okR o rs k r=true)(hst:st'=stc):
  WL P e ops [] (kG o r env) st' (λenv' st''=>st''=stc/\∃pre,env'=pre++env/\(∀t x,pre.get t=some x->o.dst=some t)/\∀d' r',o.dst=some d'->rs[k]? =some r'->pre.get d'=some r'):=by
 unfold okR at hr;unfold kG;split at hr;rename_i d hd;split at hr;rename_i r' hr';obtain rfl:=kj hr;rw[hd];have:=fw (P:=P) (e:=e) (ops:=ops) (env:=env) hd hr' hst;grind;cases hr;rename_i hd;rw[hd];have:=dU (P:=P) (e:=e) (rs:=rs) (ops:=ops) (env:=env) (k:=k) hd hst;rw[hd] at this;exact this
end
def cn(es:List Nat)(k:Nat):Nat:=(es.filter λy=>Nat.blt y k).length
def jT(P:Program)[PC P](t:Ty)(q:Bool)(call:cg)(l:List Oper)(base:Env):List Oper->Nat->List AV->List Nat->List (List AO)->List AO->Option (List AV×List Nat×List (List AO))
 |[],_,rs,es,L,_=>some (rs,es,L)
 |o::ol,k,rs,es,L,st=>bif (fJ l k (dB l o)).1.all (λj=>Nat.blt j k) then
   dF (dq l rs base (fJ l k (dB l o)).1 (fJ l k (dB l o)).2) (λev=>match exP P t l.toArray ev st o with
   |some r=>dF (rs++ [r]) λrs'=>jT P t q call l base ol (k+1) rs' es L st
   |none=>(match oE P t call l.toArray ev st o with
    |some (r,st')=>bif q&&(tO o.op&&jW st' st) then dF (rs++ [r]) λrs'=>jT P t q call l base ol (k+1) rs' es L st
     else dF (rs++ [r]) λrs'=>dF (es++ [k]) λes'=>dF (L++ [st']) λL'=>jT P t q call l base ol (k+1) rs' es' L' st'
    |none=>none)) else none
def nv(P:Program)[PC P](t:Ty)(call:cg)(l:List Oper)(base:Env)(rs:List AV)(es:List Nat)(L:List (List AO))(j:Nat)(o:Oper):Prop:=
 ∃r,oE P t call l.toArray (dq l rs base (fJ l j (dB l o)).1 (fJ l j (dB l o)).2) (L.getD (cn es j) []) o=some (r,L.getD (bif es.contains j then cn es j+1 else cn es j) [])/\rs[j]? =some r
section
variable{P:Program}[PC P]{t:Ty}{call:cg}{l:List Oper}{base:Env}
theorem qL{rs rs':List AV}{tail:Env}:∀{pk:List Nat},(∀j∈pk,j<rs.length)->ekP l (rs++rs') tail pk=ekP l rs tail pk
 |[],_=>rfl
 |j::pk,h=>by
  have h1:eko l (rs++rs') j=eko l rs j:=by grind [eko]
  unfold ekP;rw[h1,qL λj' hj=>h j' (List.mem_cons_of_mem _ hj)]
theorem oG{rs rs':List AV}{pk bk:List Nat}(h:∀j∈pk,j<rs.length):dq l (rs++rs') base pk bk=dq l rs base pk bk:=qL h
theorem oN{es es':List Nat}{k:Nat}(h1:∀y∈es,y<k)(h2:∀y∈es',k<=y):cn (es++es') k=es.length:=by grind [cn,List.filter_eq_self.2,Nat.blt_eq,List.filter_eq_nil_iff.2]
theorem oA{α:Type}{L L':List α}{n:Nat}{d:α}(h:n<L.length):(L++L').getD n d=L.getD n d:=by grind
theorem oD{ops:Array Oper}{env:Env}{st:List AO}{o:Oper}{r:AV}(h:exP P t ops env st o=some r):oE P t call ops env st o=some (r,st):=by unfold oE;rw[h]
theorem kI{q:Bool}:∀{ol:List Oper}{k:Nat}{rs:List AV}{es:List Nat}{L:List (List AO)}{st:List AO}{rsF:List AV}{esF:List Nat}{LF:List (List AO)},jT P t q call l base ol k rs es L st=some (rsF,esF,LF)->
  ol=l.drop k->rs.length=k->(∀y∈es,y<k)->L.length=es.length+1->L.getD es.length []=st->
  (∃rs',rsF=rs++rs'/\rs'.length=ol.length)/\(∃es',esF=es++es'/\∀y∈es',k<=y)/\(∃L',LF=L++L')/\LF.length=esF.length+1/\∀(j:Nat)(o:Oper),k<=j->l[j]? =some o->nv P t call l base rsF esF LF j o
 |[],k,rs,es,L,st,rsF,esF,LF,h,hol,hrs,hes,hL,hst=>by
  simp only[jT,ay,Prod.mk.injEq] at h;obtain⟨rfl,rfl,rfl⟩:=h;refine⟨⟨[],sM,rfl⟩,⟨[],sM,λy hy=>by cases hy⟩,⟨[],sM⟩,hL,λj o hj ho=>?_⟩;have:l.length<=k:=by have:=congrArg List.length hol;rw[List.length_drop] at this;simp at this;omega
  have:=(giS.1 ho).1;omega
 |o::ol,k,rs,es,L,st,rsF,esF,LF,h,hol,hrs,hes,hL,hst=>by
  unfold jT at h;obtain⟨hpk,h⟩:=dw h;simp only[dK] at h;have hpk':∀j∈(fJ l k (dB l o)).1,j<rs.length:=λj hj=>by
   have:=List.all_eq_true.1 hpk j hj;rw[hrs];simpa[Nat.blt_eq] using this
  have hok:l[k]? =some o:=by
   have:(l.drop k)[0]? =some o:=by rw[<-hol];rfl
   simpa using this
  have hol':ol=l.drop (k+1):=by
   have:(o::ol).drop 1=(l.drop k).drop 1:=by rw[hol]
   rw[List.drop_drop] at this;simpa[Nat.add_comm] using this
  have hes1:∀y∈es,y<k+1:=λy hy=>Nat.lt_succ_of_lt (hes y hy);have quiet:∀{r:AV},oE P t call l.toArray (dq l rs base (fJ l k (dB l o)).1 (fJ l k (dB l o)).2) st o=some (r,st)->jT P t q call l base ol (k+1) (rs++ [r]) es L st=some (rsF,esF,LF)->
    (∃rs',rsF=rs++rs'/\rs'.length=(o::ol).length)/\(∃es',esF=es++es'/\∀y∈es',k<=y)/\(∃L',LF=L++L')/\LF.length=esF.length+1/\∀(j:Nat)(o:Oper),k<=j->l[j]? =some o->nv P t call l base rsF esF LF j o:=λ{r} he hp=>by
   obtain⟨⟨rs',e1,e2⟩,⟨es',e3,e4⟩,⟨L',e5⟩,e6,e7⟩:=kI hp hol' (by simp[hrs]) hes1 hL hst;refine⟨⟨r::rs',by rw[e1];simp,by simp[e2]⟩,⟨es',e3,λy hy=>Nat.le_of_succ_le (e4 y hy)⟩,⟨L',e5⟩,e6,λj o' hj ho'=>?_⟩;rcases Nat.lt_or_ge k j with hj'|hj'
   exact e7 j o' hj' ho';have:j=k:=oM;subst this;rw[hok] at ho';obtain rfl:=inS ho';have hc:cn esF j=es.length:=by rw[e3];exact oN hes λy hy=>Nat.le_of_succ_le (e4 y hy)
   have hn:esF.contains j=false:=by rw[e3,List.contains_eq_mem,decide_eq_false_iff_not,List.mem_append];rintro(hm|hm);exact absurd (hes j hm) (Nat.lt_irrefl _);exact absurd (e4 j hm) oM
   refine⟨r,?_,by rw[e1,List.append_assoc,List.getElem?_append_right oM,hrs];simp⟩;rw[hn,cdF,hc,e5,oA oM,hst,e1,List.append_assoc,oG hpk'];exact he
  split at h;rename_i r hr;exact quiet (oD hr) h;split at h;rename_i r st' hr;cases hq:q&&(tO o.op&&jW st' st) with
  |true=>rw[hq,cdT] at h;rw[Bool.and_eq_true,Bool.and_eq_true] at hq;have:=iW hq.2.2;subst this;exact quiet hr h
  |false=>
   rw[hq,cdF] at h;obtain⟨⟨rs',e1,e2⟩,⟨es',e3,e4⟩,⟨L',e5⟩,e6,e7⟩:=kI h hol' (by simp[hrs]) (λy hy=>by
    rcases List.mem_append.1 hy with hy|hy
    exact hes1 y hy;rw[List.mem_singleton.1 hy];exact Nat.lt_succ_self k) (by simp[hL]) (by rw[List.length_append,List.getD_eq_getElem?_getD,List.getElem?_append_right (by simp;omega)];simp[hL])
   refine⟨⟨r::rs',by rw[e1];simp,by simp[e2]⟩,⟨k::es',by rw[e3];simp,λy hy=>?_⟩,⟨st'::L',by rw[e5];simp⟩,e6,λj o' hj ho'=>?_⟩;rcases List.mem_cons.1 hy with rfl|hy
   exact Nat.le_refl _;exact Nat.le_of_succ_le (e4 y hy);rcases Nat.lt_or_ge k j with hj'|hj'
   exact e7 j o' hj' ho';have:j=k:=oM;subst this;rw[hok] at ho';obtain rfl:=inS ho';have e3':esF=es++(j::es'):=by rw[e3];simp
   have e5':LF=L++(st'::L'):=by rw[e5];simp
   have hc:cn esF j=es.length:=by
    rw[e3'];refine oN hes λy hy=>?_;rcases List.mem_cons.1 hy with rfl|hy
    exact Nat.le_refl _;exact Nat.le_of_succ_le (e4 y hy)
   have hn:esF.contains j=true:=by rw[e3',List.contains_eq_mem,decide_eq_true_eq];simp
   refine⟨r,?_,by rw[e1,List.append_assoc,List.getElem?_append_right oM,hrs];simp⟩;rw[hn,cdT,hc,e1,List.append_assoc,oG hpk'];have h1:LF.getD es.length []=st:=by rw[e5',oA oM,hst]
   have h2:LF.getD (es.length+1) []=st':=by rw[e5',List.getD_eq_getElem?_getD,List.getElem?_append_right oM];simp[hL]
   rw[h1,h2];exact hr
  cases h
end
def ye(nt:Nat)(o:Oper):Bool:=match o.dst with
 |some d=>Nat.ble (d+1) nt
 |none=>true
def yh(P:Program)[PC P](t:Ty)(call:cg)(l:List Oper)(rs:List AV)(base:Env)(es:List Nat)(L:List (List AO))(k:Nat)(o:Oper)(p:List Nat×List Nat×List Nat)(c:Nat):Bool:=
 Nat.beq c (cn es k)||(!(es.contains k)&&(match exP P t l.toArray (dq l rs base p.1 p.2.1) (L.getD c []) o with
  |some r=>okR o rs k r
  |none=>(match oE P t call l.toArray (dq l rs base p.1 p.2.1) (L.getD c []) o with
   |some (r,st')=>okR o rs k r&&jW st' (L.getD c [])
   |none=>false)))
def uU(P:Program)[PC P](t:Ty)(nt:Nat)(call:cg)(l:List Oper)(rs:List AV)(base:Env)(es:List Nat)(L:List (List AO)):Nat->List Oper->List (List Nat×List Nat×List Nat)->Bool
 |k,o::ol,p::ps=>ye nt o&&((p.2.2.all λc=>yh P t call l rs base es L k o p c)&&uU P t nt call l rs base es L (k+1) ol ps)
 |_,_,_=>true
section
variable{P:Program}[PC P]{t:Ty}{nt:Nat}{call:cg}{e:En}{l:List Oper}{rs:List AV}{base:Env}{es:List Nat}{L:List (List AO)}
theorem l7{tc:List (List Nat)}:∀{ol:List Oper}{k j:Nat}{o:Oper},ol[j]? =some o->(gU l tc es k ol)[j]? =some ((fJ l (k+j) (dB l o)).1,(fJ l (k+j) (dB l o)).2,csX tc es (k+j))
 |o0::ol,k,0,o,h=>by
  obtain rfl:=inS h;rfl
 |o0::ol,k,j+1,o,h=>by
  have:=l7 (tc:=tc) (ol:=ol) (k:=k+1) (j:=j) (o:=o) (by simpa using h);rw[show k+(j+1)=k+1+j by omega];exact this
 |[],_,_,_,h=>by simp at h
theorem vY{ops:Array Oper}{env:Env}{st' stc:List AO}{o:Oper}{k:Nat}{r:AV}(hr:rs[k]? =some r)(hst:st'=stc):
  WL P e ops [] (kG o r env) st' (λenv' st''=>st''=stc/\∃pre,env'=pre++env/\(∀t x,pre.get t=some x->o.dst=some t)/\∀d' r',o.dst=some d'->rs[k]? =some r'->pre.get d'=some r'):=by
 unfold kG;split;rename_i d hd;have:=fw (P:=P) (e:=e) (ops:=ops) (env:=env) hd hr hst;grind;rename_i hd;have:=dU (P:=P) (e:=e) (rs:=rs) (ops:=ops) (env:=env) (k:=k) hd hst;grind
theorem qr{sts:Nat->List AO}{k:Nat}{o:Oper}{pk bk:List Nat}{up:Bool}:∀{cs:List Nat},(∀c∈cs,Ob P e l rs base sts k o pk bk c (bif up then c+1 else c))->ObC P e l rs base sts k o pk bk up cs
 |[],_=>trivial
 |c::cs,h=>⟨h c List.mem_cons_self,qr λc' hc=>h c' (List.mem_cons_of_mem _ hc)⟩
theorem wh(ht:t.ok P=true)(hc:cW P call)(hn:e.n=nt){k c:Nat}{o:Oper}{p:List Nat×List Nat×List Nat}(hp:nv P t call l base rs es L k o)(hpp:p.1=(fJ l k (dB l o)).1/\p.2.1=(fJ l k (dB l o)).2)(h0:ye nt o=true)
  (h:yh P t call l rs base es L k o p c=true):Ob P e l rs base (λc=>L.getD c []) k o p.1 p.2.1 c (bif es.contains k then c+1 else c):=λF=>by
 have hd:∀d,o.dst=some d->Nat.ble (d+1) e.n=true:=by grind [ye]
 unfold yh at h;rw[Bool.or_eq_true] at h;rcases h with h|h
 have:=nbE h;subst this;obtain⟨r,h1,h2⟩:=hp;rw[hpp.1,hpp.2];exact qH ht hc hd h1 (vY h2 rfl);rw[Bool.and_eq_true,Bool.not_eq_true'] at h;rw[h.1,cdF];have h:=h.2;split at h;rename_i r hr;exact tX ht hd hr (qM h rfl);split at h;rename_i r st' hr;rw[Bool.and_eq_true] at h;exact qH ht hc hd hr (qM h.1 (iW h.2));cases h
theorem qq(ht:t.ok P=true)(hc:cW P call)(hn:e.n=nt){tc:List (List Nat)}(hp:∀(j:Nat)(o:Oper),l[j]? =some o->nv P t call l base rs es L j o):∀{ol:List Oper}{ps:List (List Nat×List Nat×List Nat)}{k:Nat},ol=l.drop k->ps=(gU l tc es 0 l).drop k->uU P t nt call l rs base es L k ol ps=true->
  Obs P e l rs base (λc=>L.getD c []) es k ol ps
 |[],_,_,_,_,_=>trivial
 |_::_,[],_,_,_,_=>trivial
 |o::ol,p::ps,k,h1,h2,h=>by
  unfold uU at h;rw[Bool.and_eq_true,Bool.and_eq_true] at h;have ho:l[k]? =some o:=by
   have:(l.drop k)[0]? =some o:=by rw[<-h1];rfl
   simpa using this
  have hpl:(gU l tc es 0 l)[k]? =some p:=by
   have:((gU l tc es 0 l).drop k)[0]? =some p:=by rw[<-h2];rfl
   simpa using this
  have hpe:p=((fJ l k (dB l o)).1,(fJ l k (dB l o)).2,csX tc es k):=by have:=l7 (l:=l) (tc:=tc) (es:=es) (k:=0) ho;grind
  have h1':ol=l.drop (k+1):=by
   have:(o::ol).drop 1=(l.drop k).drop 1:=by rw[h1]
   grind [List.drop_drop]
  have h2':ps=(gU l tc es 0 l).drop (k+1):=by
   have:(p::ps).drop 1=((gU l tc es 0 l).drop k).drop 1:=by rw[h2]
   grind [List.drop_drop]
  exact⟨qr λc hcm=>wh ht hc hn (hp k o ho) (by rw[hpe];exact⟨rfl,rfl⟩) h.1 (List.all_eq_true.1 h.2.1 c hcm),qq ht hc hn hp h1' h2' h.2.2⟩
end
def vN(P:Program)[PC P](t:Ty)(q:Bool)(nt:Nat)(call:cg)(l:List Oper)(base:Env)(st:List AO):Option (Env×List AO):=
 match jT P t q call l base l 0 [] [] [st] st with
 |some (rs,es,L)=>bif P.follows .mixedOrders&&(jY l (tcF l) es (gU l (tcF l) es 0 l)&&(Nat.beq rs.length l.length&&(es.all (λy=>Nat.blt y l.length)&&(uU P t nt call l rs base es L 0 l (gU l (tcF l) es 0 l)&&bP l))))
   then dF (FL base (λk=>Nat.blt k l.length) (bO l rs 0)) (λev=>some (ev,L.getD es.length [])) else none
 |none=>none
theorem vM{P:Program}[PC P]{t:Ty}{q:Bool}{nt:Nat}{call:cg}{e:En}(ht:t.ok P=true)(hc:cW P call)(hn:e.n=nt){l:List Oper}{base env':Env}{st st':List AO}{id:Nat}{κ:Ko}(h:vN P t q nt call l base st=some (env',st'))(k:WE P e .normal κ env' st'):WC P e (.region id l.toArray true) κ base st:=by unfold vN at h;split at h;rename_i rs es L hs;obtain⟨hh,h⟩:=dw h;rw[dK] at h;obtain⟨rfl,rfl⟩:=h;simp only[Bool.and_eq_true] at hh;obtain⟨c1,c2,c3,c4,c5,c6⟩:=hh;obtain⟨_,_,⟨L',h0⟩,_,hp⟩:=kI hs sM rfl (λy hy=>by cases hy) rfl rfl;exact gR rs (tcF l) es (λc=>L.getD c []) (gU l (tcF l) es 0 l) c1 c2 c3 c4 (by show L.getD 0 []=st;rw[h0];rfl) (qq (tc:=tcF l) ht hc hn (λj o ho=>hp j o (Nat.zero_le _) ho) sM sM c5) k c6;cases h
def exA(P:Program)[PC P](t:Ty)(nt:Nat)(call:cg)(l:List Oper)(base:Env)(st:List AO):Option (Env×List AO):=match vN P t false nt call l base st with
 |some r=>some r
 |none=>vN P t true nt call l base st
theorem xX{P:Program}[PC P]{t:Ty}{nt:Nat}{call:cg}{e:En}(ht:t.ok P=true)(hc:cW P call)(hn:e.n=nt){l:List Oper}{base env':Env}{st st':List AO}{id:Nat}{κ:Ko}(h:exA P t nt call l base st=some (env',st'))(k:WE P e .normal κ env' st'):WC P e (.region id l.toArray true) κ base st:=by grind [exA,vM]
def nq(env:Env):List Nat->Option (List AV)
 |[]=>some []
 |t::l=>match env.get t,nq env l with
  |some x,some xs=>some (x::xs)
  |_,_=>none
theorem mu{env:Env}:∀{l:List Nat}{xs:List AV},nq env l=some xs->cw env (l.map .tmp)=some xs
 |[],xs,h=>by obtain rfl:=inS h;rfl
 |t::l,xs,h=>by
  unfold nq at h;split at h;rename_i h1 h2;obtain rfl:=inS h;show(match env.get t,cw env (l.map .tmp) with|some y,some ys=>some (y::ys)|_,_=>none)=_;rw[h1,mu h2];cases h
def exC(P:Program)[PC P](t:Ty)(nt:Nat)(call:cg)(yld:ld)(top:Bool)(hook:fa):Nat->Code->Env->List AO->Option (Exit×Env×List AO)
 |0,_,_,_=>none
 |n+1,c,env,st=>match c with
  | .skip=>some (.normal,env,st)
  | .ret=>some (.ret,env,st)
  | .exit i=>some (.exit i,env,st)
  | .seq x y=>(match exC P t nt call yld top hook n x env st with
   |some (.normal,env',st')=>exC P t nt call yld top hook n y env' st'
   |some (.ret,env',st')=>some (.ret,env',st')
   |some (.exit i,env',st')=>some (.exit i,env',st')
   |_=>none)
  | .block i x=>(match exC P t nt call yld top hook n x env st with
   |some (.normal,env',st')=>some (.normal,env',st')
   |some (.ret,env',st')=>some (.ret,env',st')
   |some (.exit j,env',st')=>bif Nat.beq j i then some (.normal,env',st') else some (.exit j,env',st')
   |_=>none)
  | .cond b x y=>(match(opv env b).bind qX with
   |some true=>exC P t nt call yld top hook n x env st
   |some false=>exC P t nt call yld top hook n y env st
   |none=>none)
  | .region _ a false=>bif bP a.toList then(match exL P t nt call yld hook a a.toList env st with
   |some (env',st')=>some (.normal,env',st')
   |none=>none) else none
  | .region _ a true=>(match exA P t nt call a.toList env st with
   |some (env',st')=>some (.normal,env',st')
   |none=>none)
  | .loop x=>(match exC P t nt call yld top hook n x env st with
   |some (.normal,env',st')=>exC P t nt call yld top hook n (.loop x) env' st'
   |some (.ret,env',st')=>some (.ret,env',st')
   |some (.exit i,env',st')=>some (.exit i,env',st')
   |_=>none)
  | .rangeFunc g ps asg body=>bif top then(match opv env g,nq env (env.map (·.1)) with
   |some (.fn (.func f) first caps),some vs=>(match call f (first++ .yl st.length::caps) (st++ [.lp ⟨nt,env.map (·.1),ps.toList,asg,body⟩ vs .ready none]) with
    |some (_,st')=>(match st'[st.length]? with
     |some (.lp _ _ .ready none)=>some (.normal,env,st'.set st.length .dead)
     |some (.lp _ _ .done (some .ret))=>some (.ret,env,st'.set st.length .dead)
     |some (.lp _ _ .done (some (.exit i)))=>some (.exit i,env,st'.set st.length .dead)
     |_=>none)
    |none=>none)
   |_,_=>none) else none
  |_=>none
section
variable{P:Program}[PC P]{t:Ty}{nt:Nat}{call:cg}{yld:ld}{top:Bool}{hook:fa}{e:En}
theorem ir(ht:t.ok P=true)(hc:cW P call)(hyl:oS P yld)(htop:top=true->e.rd=none/\e.ds=none)(hh:jL hook)(hn:e.n=nt):∀(n:Nat),
  (∀(c:Code)(env env':Env)(st st':List AO)(x:Exit)(κ:Ko),exC P t nt call yld top hook n c env st=some (x,env',st')->WE P e x κ env' st'->WC P e c κ env st)/\
  (∀(c:Code)(env env':Env)(st st':List AO)(x:Exit)(κ:Ko),exC P t nt call yld top hook n (.loop c) env st=some (x,env',st')->WE P e x κ env' st'->∃m,n=m+1/\WC P e c (.rl m c κ) env st)
 |0=>⟨λ_ _ _ _ _ _ _ h=>(by cases h),λ_ _ _ _ _ _ _ h=>(by cases h)⟩
 |n+1=>by
  obtain⟨iA,iB⟩:=ir ht hc hyl htop hh hn n;have hB:∀(c:Code)(env env':Env)(st st':List AO)(x:Exit)(κ:Ko),exC P t nt call yld top hook (n+1) (.loop c) env st=some (x,env',st')->WE P e x κ env' st'->∃m,n+1=m+1/\WC P e c (.rl m c κ) env st:=by intro c env env' st st' x κ h k;refine⟨n,rfl,?_⟩;dsimp only[exC] at h;split at h;rename_i hx;obtain⟨m,hm,hw⟩:=iB _ _ _ _ _ _ _ h k;subst hm;exact iA _ _ _ _ _ _ _ hx (bN hw);rename_i hx;simp only[ay,Prod.mk.injEq] at h;obtain⟨rfl,rfl,rfl⟩:=h;exact iA _ _ _ _ _ _ _ hx (dl k);rename_i hx;simp only[ay,Prod.mk.injEq] at h;obtain⟨rfl,rfl,rfl⟩:=h;exact iA _ _ _ _ _ _ _ hx (bn k);cases h
  refine⟨?_,hB⟩;intro c env env' st st' x κ h k;cases c with
  |loop c=>obtain⟨m,_,hw⟩:=hB _ _ _ _ _ _ _ h k;exact bw m hw
  |skip=>dsimp only[exC] at h;simp only[ay,Prod.mk.injEq] at h;obtain⟨rfl,rfl,rfl⟩:=h;exact pY k
  |ret=>dsimp only[exC] at h;simp only[ay,Prod.mk.injEq] at h;obtain⟨rfl,rfl,rfl⟩:=h;exact sH k
  |exit i=>dsimp only[exC] at h;simp only[ay,Prod.mk.injEq] at h;obtain⟨rfl,rfl,rfl⟩:=h;exact pZ k
  |seq a b=>dsimp only[exC] at h;split at h;rename_i hx;exact mD (iA _ _ _ _ _ _ _ hx (pb (iA _ _ _ _ _ _ _ h k)));rename_i hx;simp only[ay,Prod.mk.injEq] at h;obtain⟨rfl,rfl,rfl⟩:=h;exact mD (iA _ _ _ _ _ _ _ hx (ky k));rename_i hx;simp only[ay,Prod.mk.injEq] at h;obtain⟨rfl,rfl,rfl⟩:=h;exact mD (iA _ _ _ _ _ _ _ hx (jO k));cases h
  |block i a=>
   dsimp only[exC] at h;split at h;rename_i hx;simp only[ay,Prod.mk.injEq] at h;obtain⟨rfl,rfl,rfl⟩:=h;exact ge (iA _ _ _ _ _ _ _ hx (sG k));rename_i hx;simp only[ay,Prod.mk.injEq] at h;obtain⟨rfl,rfl,rfl⟩:=h;exact ge (iA _ _ _ _ _ _ _ hx (kz k));rename_i j _ _ hx;cases hb:Nat.beq j i with
   |true=>rw[hb] at h;simp only[cdT,ay,Prod.mk.injEq] at h;obtain⟨rfl,rfl,rfl⟩:=h;have:=nbE hb;subst this;exact ge (iA _ _ _ _ _ _ _ hx (kA k))
   |false=>rw[hb] at h;simp only[cdF,ay,Prod.mk.injEq] at h;obtain⟨rfl,rfl,rfl⟩:=h;exact ge (iA _ _ _ _ _ _ _ hx (jQ hb k))
   cases h
  |cond b x y=>dsimp only[exC] at h;split at h;rename_i hb;obtain⟨z,h1,h2⟩:=bW hb;rw[iZ h2] at h1;exact iD h1 (λ_=>iA _ _ _ _ _ _ _ h k) (λh=>by cases h);rename_i hb;obtain⟨z,h1,h2⟩:=bW hb;rw[iZ h2] at h1;exact iD h1 (λh=>by cases h) (λ_=>iA _ _ _ _ _ _ _ h k);cases h
  |region id a b=>
   cases b with
   |false=>dsimp only[exC] at h;obtain⟨hd,h⟩:=dw h;split at h;rename_i hx;simp only[ay,Prod.mk.injEq] at h;obtain⟨rfl,rfl,rfl⟩:=h;exact lJ (l:=a.toList) (jB ht hc hyl hh hn hx k) hd;cases h
   |true=>dsimp only[exC] at h;split at h;rename_i hx;simp only[ay,Prod.mk.injEq] at h;obtain⟨rfl,rfl,rfl⟩:=h;exact xX (l:=a.toList) ht hc hn hx k;cases h
  |rangeFunc g ps asg body=>
   dsimp only[exC] at h;obtain⟨htp,h⟩:=dw h;obtain⟨hrd,hds⟩:=htop htp;split at h;rename_i f first caps vs hg hvs
   split at h;rename_i r1 st1 hx;have hctr:=hc _ _ _ _ _ hx;rw[<-hn] at hctr;refine lQ (env.map (·.1)) _ hrd hg (mu hvs) hctr (λr' s' hq=>?_) hds;obtain⟨rfl,rfl⟩:=hq;split at h;rename_i hl;simp only[ay,Prod.mk.injEq] at h;obtain⟨rfl,rfl,rfl⟩:=h;exact⟨_,_,_,_,_,SLe.refl _,hl,sM,k⟩;rename_i hl;simp only[ay,Prod.mk.injEq] at h;obtain⟨rfl,rfl,rfl⟩:=h;exact⟨_,_,_,_,_,SLe.refl _,hl,sM,k⟩;rename_i hl;simp only[ay,Prod.mk.injEq] at h;obtain⟨rfl,rfl,rfl⟩:=h;exact⟨_,_,_,_,_,SLe.refl _,hl,sM,k⟩;cases h;cases h;cases h
  |_=>cases h
end
def s7:ld:=λ_ _ _=>none
theorem iL{P:Program}:oS P s7:=λ_ _ _ _ _ h=>by cases h
def wY(P:Program)[PC P](t:Ty)(call:cg)(hook:fa)(fuel:Nat):ld:=λid asz st=>match st[id]? with
 |some (.lp s vs .ready _)=>bif Nat.beq asz.length s.ps.length&&(fL s.ps&&((s.ps.all λp=>Nat.blt p s.n)&&Nat.beq s.ts.length vs.length)) then
   (match exC P t s.n call s7 false hook fuel s.asg (List.zip s.ps asz++List.zip s.ts vs) st with
   |some (.normal,env1,st1)=>(match st1[id]? with
    |some (.lp s1 vs1 .ready pd1)=>(match exC P t s.n call s7 false hook fuel s.body env1 (st1.set id (.lp s1 vs1 .busy pd1)) with
     |some (.normal,_,st2)=>(match st2[id]? with
      |some (.lp s2 vs2 .busy _)=>some (.d (.v (.bool true)),st2.set id (.lp s2 vs2 .ready none))
      |_=>none)
     |some (.ret,_,st2)=>(match st2[id]? with
      |some (.lp s2 vs2 .busy _)=>some (.d (.v (.bool false)),st2.set id (.lp s2 vs2 .done (some .ret)))
      |_=>none)
     |some (.exit i,_,st2)=>(match st2[id]? with
      |some (.lp s2 vs2 .busy _)=>some (.d (.v (.bool false)),st2.set id (.lp s2 vs2 .done (some (.exit i))))
      |_=>none)
     |_=>none)
    |_=>none)
   |_=>none) else none
 |_=>none
theorem pT{P:Program}[PC P]{t:Ty}{call:cg}{hook:fa}{fuel:Nat}(ht:t.ok P=true)(hc:cW P call)(hh:jL hook):oS P (wY P t call hook fuel):=by
 intro id asz st r st' h e ops rest o env R c x d hop hx hf has hw ho hd k;unfold wY at h;split at h;rename_i s vs pd hs;obtain⟨hq,h⟩:=dw h;simp only[Bool.and_eq_true] at hq;obtain⟨q1,q2,q3,q4⟩:=hq;refine mv (λr' s'=>r'=r/\s'=st') hop hx hf has hs q1 q2 q3 q4 (λe' hn' hrd' _=>?_) hw ho hd (λr' s' hq=>by obtain⟨rfl,rfl⟩:=hq;exact k);have hT:∀{b:Bool},(b=false)->b=true->e'.rd=none/\e'.ds=none:=by grind
 split at h;rename_i env1 st1 hx1;split at h;rename_i s1 vs1 pd1 hs1;refine(ir ht hc iL (hT rfl) hh hn' fuel).1 _ _ _ _ _ _ _ hx1 (hH hrd' hs1 ?_);split at h;rename_i env2 st2 hx2;split at h;rename_i hs2;obtain⟨rfl,rfl⟩:=h;exact(ir ht hc iL (hT rfl) hh hn' fuel).1 _ _ _ _ _ _ _ hx2 (fF hrd' hs2 ⟨rfl,rfl⟩);cases h;rename_i env2 st2 hx2;split at h;rename_i hs2;obtain⟨rfl,rfl⟩:=h;exact(ir ht hc iL (hT rfl) hh hn' fuel).1 _ _ _ _ _ _ _ hx2 (de hrd' hs2 ⟨rfl,rfl⟩);cases h;rename_i env2 st2 hx2;split at h;rename_i hs2;obtain⟨rfl,rfl⟩:=h;exact(ir ht hc iL (hT rfl) hh hn' fuel).1 _ _ _ _ _ _ _ hx2 (mC hrd' hs2 ⟨rfl,rfl⟩);cases h;cases h;cases h;cases h;cases h
def rvX(P:Program)(env:Env)(st:List AO):ResultVar->Option AV
 | .tmp t=>env.get t
 | .cell p T=>match env.get p with
  |some (.pt id off)=>(match st[id]? with
   |some (.row _ cs)=>(match a8 P T,bt P T with
    |some false,_=>cs[off]?
    |some true,some n=>bif Nat.ble (off+n) cs.length then some (.ag ((cs.drop off).take n)) else none
    |_,_=>none)
   |_=>none)
  |_=>none
def uO(P:Program)(env:Env)(st:List AO):List ResultVar->Option AV
 |[]=>some (.tu [])
 |[v]=>rvX P env st v
 |[v,u]=>match rvX P env st v,rvX P env st u with
  |some r,some s=>some (.tu [r,s])
  |_,_=>none
 |[v,u,z]=>match rvX P env st v,rvX P env st u,rvX P env st z with
  |some r,some s,some q=>some (.tu [r,s,q])
  |_,_,_=>none
 |_=>none
section
variable{P:Program}{env:Env}{st:List AO}
theorem pp{v:ResultVar}{r:AV}(h:rvX P env st v=some r):RV1 P env st v r:=by
 cases v with
 |tmp t=>exact cO h
 |cell p T=>grind [rvX,lz,eL]
theorem qm{fn:Func}{r:AV}(h:uO P env st fn.results.toList=some r):Res P fn env st r:=by
 have hl:∀L,fn.results.toList=L->fn.results=L.toArray:=by grind
 unfold uO at h;split at h;grind [av];grind [rs1,pp];grind [rs2,pp];grind [rs3,pp];cases h
end
def xV(P:Program)[PC P](t:Ty)(call:cg)(hook:fa)(fuel:Nat)(fn:Func)(asz:List AV)(st:List AO):Option (AV×List AO):=
 match fn.body with
 |some c=>bif !(fn.name== "runtime.NumGoroutine")&&Nat.ble asz.length fn.ntmps then(match exC P t fn.ntmps call (wY P t call hook fuel) true hook fuel c (fB 0 asz) st with
  |some (.ret,env',st')=>(match uO P env' st' fn.results.toList with
   |some r=>some (r,st')
   |none=>none)
  |some (.normal,env',st')=>(match uO P env' st' fn.results.toList with
   |some r=>some (r,st')
   |none=>none)
  |_=>none) else none
 |none=>none
def bmax(a b:Nat):Nat:=bif Nat.ble a b then b else a
mutual
def AV.ids(n:Nat):AV->List Nat
 | .ag ps=>AV.idss n ps
 | .pt id _=>bif Nat.ble n id then[id] else[]
 | .sr id _ _ _=>bif Nat.ble n id then[id] else[]
 | .fn _ a b=>AV.idss n a++AV.idss n b
 | .mp id=>bif Nat.ble n id then[id] else[]
 | .tu l=>AV.idss n l
 | .os id _=>bif Nat.ble n id then[id] else[]
 | .pe id _ _=>bif Nat.ble n id then[id] else[]
 | .ow id _ _ _ _=>bif Nat.ble n id then[id] else[]
 | .ifc _ x=>x.ids n
 | .osf id _ _=>bif Nat.ble n id then[id] else[]
 | .pem id _ _ _=>bif Nat.ble n id then[id] else[]
 | .yl id=>bif Nat.ble n id then[id] else[]
 |_=> []
def AV.idss(n:Nat):List AV->List Nat
 |[]=> []
 |x::xs=>x.ids n++AV.idss n xs
end
def idq(n:Nat)(x:AV)(acc:List Nat):List Nat:=match x with
 | .d _=>acc
 | .os id _=>bif Nat.ble n id then id::acc else acc
 | .pt id _=>bif Nat.ble n id then id::acc else acc
 | .pe id _ _=>bif Nat.ble n id then id::acc else acc
 | .mp id=>bif Nat.ble n id then id::acc else acc
 |x=>x.ids n++acc
def vC(n:Nat):List AV->List Nat->List Nat
 |[],acc=>acc
 |x::l,acc=>vC n l (idq n x acc)
def wJ(n:Nat):List (List AV)->List Nat->List Nat
 |[],acc=>acc
 |e::l,acc=>wJ n l (vC n e acc)
def AO.ids(n:Nat):AO->List Nat
 | .row _ cs=>vC n cs []
 | .os _ _ _ es=>wJ n es []
 | .mp es=>AV.idss n (es.map (·.2))
 | .mb _ xs _=>vC n xs []
 | .it src _ _ _=>src.ids n
 | .fam _ _ _ ess=>AV.idss n ess.flatten.flatten
 | .lp _ vs _ _=>AV.idss n vs
 |_=> []
def xM(n:Nat):List AO->List Nat
 |[]=> []
 |o::l=>o.ids n++xM n l
def ltq(n:Nat)(x:AV):Bool:=match x with
 | .d _=>true
 | .os id _=>Nat.ble (id+1) n
 | .pt id _=>Nat.ble (id+1) n
 | .pe id _ _=>Nat.ble (id+1) n
 | .mp id=>Nat.ble (id+1) n
 |x=>x.lt n
theorem xC{n:Nat}{x:AV}(h:ltq n x=true):x.lt n=true:=by unfold ltq at h;split at h<;>first|exact h|(simp only[AV.lt];done)|(simp only[AV.lt];exact h)
def pz(n:Nat):List AV->Bool
 |[]=>true
 |x::l=>bif ltq n x then pz n l else false
theorem kh{n:Nat}:∀{l:List AV},pz n l=true->AV.lts n l=true
 |[],_=>rfl
 |x::l,h=>by
  unfold pz at h;cases hb:ltq n x with
  |true=>rw[hb,cdT] at h;simp only[AV.lts,Bool.and_eq_true];exact⟨xC hb,kh h⟩
  |false=>grind
def qw(n:Nat):List (List AV)->Bool
 |[]=>true
 |e::l=>bif pz n e then qw n l else false
theorem oh{n:Nat}:∀{l:List (List AV)},qw n l=true->AV.lts n l.flatten=true
 |[],_=>rfl
 |e::l,h=>by
  unfold qw at h;cases hb:pz n e with
  |true=>rw[hb,cdT] at h;rw[List.flatten_cons,vy,kh hb,oh h];rfl
  |false=>grind
def uX(n:Nat)(o:AO):Bool:=match o with
 | .row _ cs=>pz n cs
 | .os _ _ _ es=>qw n es
 | .mb _ xs _=>pz n xs
 |o=>o.lt n
theorem uW{n:Nat}{o:AO}(h:uX n o=true):o.lt n=true:=by unfold uX at h;split at h;exact kh h;exact oh h;exact kh h;exact h
def qh(n:Nat):List AO->Bool
 |[]=>true
 |o::l=>bif uX n o then qh n l else false
theorem nP{n:Nat}:∀{l:List AO},qh n l=true->d3 n l=true
 |[],_=>rfl
 |o::l,h=>by
  unfold qh at h;cases hb:uX n o with
  |true=>rw[hb,cdT] at h;simp only[d3,Bool.and_eq_true];exact⟨uW hb,nP h⟩
  |false=>grind
def mH(n:Nat)(r:AV)(st:List AO):Bool:=r.lt n&&qh n st
def mN(n:Nat)(st:List AO):Nat->List Nat->List Nat->List Nat
 |0,_,seen=>seen
 |_+1,[],seen=>seen
 |k+1,x::todo,seen=>bif seen.contains x then mN n st k todo seen else mN n st k ((match st[x]? with
  |some o=>o.ids n
  |none=> [])++todo) (x::seen)
def sk(ks:List Nat):Nat->Nat->List AO->List AO
 |_,_,[]=> []
 |n,i,o::l=>(bif Nat.blt i n||ks.contains i then o else .dead)::sk ks n (i+1) l
theorem pS{ks:List Nat}{n:Nat}:∀{l:List AO}{i:Nat},SLe l (sk ks n i l)
 |[],_=>trivial
 |o::l,i=>by
  refine⟨?_,pS⟩;cases (Nat.blt i n||ks.contains i) with
  |true=>exact OLe.refl o
  |false=>exact trivial
def oc:Nat->List Nat->Nat
 |m,[]=>m
 |m,x::l=>oc (bmax m (x+1)) l
def wD(n0:Nat)(ks:List Nat)(r:AV)(st:List AO):List AO:=bif Nat.ble n0 (oc n0 ks)&&mH (oc n0 ks) r (sk ks n0 0 (st.take (oc n0 ks))) then sk ks n0 0 (st.take (oc n0 ks)) else st
def nM(n0:Nat)(r:AV)(st:List AO):List AO:=
 bif Nat.ble st.length n0 then st else wD n0 (mN n0 st 1000 (r.ids n0++xM n0 (st.take n0)) []) r st
theorem uL{m m':List Cz}{φ φ':Nat->Nat}{w w':World}{st st':List AO}{r:AV}{v:Value}{n:Nat}(hl:m.length=st.length)(hev:Ev m φ w m' φ' w')(hsr:SR m' φ' st' w')(hra:RA m' φ' w' r v)(hn:st.length<=n){st1:List AO}(hz:SLe (st'.take n) st1)(ht:mH n r st1=true):
  ∃m'',Ev m φ w m'' φ' w'/\SR m'' φ' st1 w'/\RA m'' φ' w' r v:=by
 unfold mH at ht;rw[Bool.and_eq_true] at ht;have hlen:=hz.length;have hst1:=nP ht.2;refine⟨m'.take n,⟨λi c hi=>?_,λb ⟨i,c,h1,h2⟩=>hev.new b ⟨i,c,(bQ h1).2,h2⟩,hev.os,hev.tape,hev.output,hev.size,hev.keep,hev.fz⟩,⟨by rw[hlen];simp[hsr.len],λi o c h1 h2=>?_,hsr.lt,λi j o o' c c' b h1 h2 l1 l2 h3 h4=>?_,hsr.gl,λb ⟨i,c,h1,h2⟩=>hsr.nb b ⟨i,c,(bQ h1).2,h2⟩⟩,RA.take _ _ ht.1 hra⟩;obtain⟨c',h1,h2⟩:=hev.pre i c hi;grind;obtain⟨o0,g1,g2⟩:=hz.get h1;exact((hsr.obj i o0 c (bQ g1).2 (bQ h2).2).weak g2).take (eK hst1 h1);obtain⟨o0,g1,g2⟩:=hz.get h1;obtain⟨o1,g3,g4⟩:=hz.get h2;exact hsr.inj i j o0 o1 c c' b (bQ g1).2 (bQ g3).2 (g2.live l1) (g4.live l2) (bQ h3).2 (bQ h4).2
theorem sL{m m':List Cz}{φ φ':Nat->Nat}{w w':World}{st st':List AO}{r:AV}{v:Value}(hl:m.length=st.length)(hev:Ev m φ w m' φ' w')(hsr:SR m' φ' st' w')(hra:RA m' φ' w' r v):
  ∃m'',Ev m φ w m'' φ' w'/\SR m'' φ' (nM st.length r st') w'/\RA m'' φ' w' r v:=by
 unfold nM;cases Nat.ble st'.length st.length with
 |true=>grind
 |false=>
  generalize mN st.length st' 1000 (r.ids st.length++xM st.length (st'.take st.length)) []=ks;unfold wD;cases h2:(Nat.ble st.length (oc st.length ks)&&mH (oc st.length ks) r (sk ks st.length 0 (st'.take (oc st.length ks)))) with
  |true=>rw[Bool.and_eq_true] at h2;exact uL hl hev hsr hra (nbT h2.1) pS h2.2
  |false=>grind
theorem sa{P:Program}{f:FuncId}{asz:List AV}{st:List AO}{Q:AV->List AO->Prop}(h:Ctr P f asz st Q):Ctr P f asz st (λr s=>∃s0,Q r s0/\s=nM st.length r s0):=by refine⟨h.1,λm φ w vs hs ha=>(h.2 m φ w vs hs ha).mono ?_⟩;rintro en w' ⟨v,r',s',m',φ',he,hq,hev,hsr,hra⟩;obtain⟨m'',k1,k2,k3⟩:=sL (r:=r') hs.len hev hsr hra;grind
theorem rZ{P:Program}{f:FuncId}{asz:List AV}{st st':List AO}{r:AV}(h:Ctr P f asz st λr' s'=>r'=r/\s'=st'):Ctr P f asz st (λr' s'=>r'=r/\s'=nM st.length r st'):=by have:=sa h;grind
def exF(P:Program)[PC P](t:Ty)(fT:FuncId->Option Func)(kn:cg)(hook:fa)(fuel:Nat):Nat->cg
 |0=>λ_ _ _=>none
 |n+1=>λf asz st=>match kn f asz st with
  |some r=>some r
  |none=>(match fT f with
   |some fn=>(match xV P t (exF P t fT kn hook fuel n) hook fuel fn asz st with
    |some (r,st')=>some (r,nM st.length r st')
    |none=>none)
   |none=>none)
section
variable{P:Program}[PC P]{t:Ty}
theorem vK(ht:t.ok P=true){call:cg}(hc:cW P call){hook:fa}(hh:jL hook){fuel:Nat}{f:FuncId}{fn:Func}(hf:P.funcs[f]? =some fn){asz:List AV}{st st':List AO}{r:AV}(h:xV P t call hook fuel fn asz st=some (r,st')):Ctr P f asz st (λr' s'=>r'=r/\s'=st'):=by unfold xV at h;split at h;rename_i c hb;obtain⟨hq,h⟩:=dw h;rw[Bool.and_eq_true,Bool.not_eq_true'] at hq;refine jD hf hq.1 hb rfl hq.2 λm φ w _=>?_;split at h;rename_i env1 st1 hx;split at h;rename_i r1 hr;obtain⟨rfl,rfl⟩:=h;exact(ir (e:=⟨m,φ,w,fn.ntmps,none,none⟩) ht hc (pT ht hc hh) (λ_=>⟨rfl,rfl⟩) hh rfl fuel).1 _ _ _ _ _ _ _ hx (ah (qm hr) ⟨rfl,rfl⟩);cases h;rename_i env1 st1 hx;split at h;rename_i r1 hr;obtain⟨rfl,rfl⟩:=h;exact(ir (e:=⟨m,φ,w,fn.ntmps,none,none⟩) ht hc (pT ht hc hh) (λ_=>⟨rfl,rfl⟩) hh rfl fuel).1 _ _ _ _ _ _ _ hx (am (ah (qm hr) ⟨rfl,rfl⟩));cases h;cases h;cases h
theorem tY(ht:t.ok P=true){fT:FuncId->Option Func}(hT:∀f fn,fT f=some fn->P.funcs[f]? =some fn){kn:cg}(hk:cW P kn){hook:fa}(hh:jL hook){fuel:Nat}:∀n,cW P (exF P t fT kn hook fuel n)
 |0=>λ_ _ _ _ _ h=>by cases h
 |n+1=>λf asz st r st' h=>by
  unfold exF at h;split at h;rename_i hr;obtain rfl:=inS h;exact hk _ _ _ _ _ hr;split at h;rename_i fn hfn;split at h;rename_i r1 st1 hx;obtain⟨rfl,rfl⟩:=h;exact rZ (vK ht (tY ht hT hk hh n) hh (hT _ _ hfn) hx);cases h;cases h
end
mutual
def fzA(id ver:Nat)(y:AV):AV->AV
 | .os i v=>bif Nat.beq i id&&Nat.beq v ver then y else .os i v
 | .ag ps=> .ag (fzAs id ver y ps)
 | .tu ps=> .tu (fzAs id ver y ps)
 | .fn f a b=> .fn f (fzAs id ver y a) (fzAs id ver y b)
 | .ifc t x=> .ifc t (fzA id ver y x)
 |x=>x
def fzAs(id ver:Nat)(y:AV):List AV->List AV
 |[]=> []
 |x::l=>fzA id ver y x::fzAs id ver y l
end
section
variable{m:List Cz}{φ:Nat->Nat}{w:World}{id ver:Nat}{y:AV}{yv:Value}(hm:m[id]? =some (.tok ver yv))(hy:RA m φ w y yv)
include hm hy
mutual
theorem ux:∀(x:AV)(v:Value),RA m φ w x v->RA m φ w (fzA id ver y x) v
 | .os i u,v,h=>by
  rw[fzA];cases hb:Nat.beq i id&&Nat.beq u ver with
  |false=>exact h
  |true=>rw[Bool.and_eq_true] at hb;have e1:=nbE hb.1;have e2:=nbE hb.2;subst e1 e2;obtain⟨v0,y0,h1,_,h3⟩:=h;rw[hm] at h1;obtain⟨rfl,rfl⟩:=h1;rw[h3 rfl];exact hy
 | .ag ps,v,h=>by
  obtain⟨cs,h1,h2⟩:=h;exact⟨cs,h1,RAs_fz ps cs h2⟩
 | .tu ps,v,h=>by
  obtain⟨cs,h1,h2⟩:=h;exact⟨cs,h1,RAs_fz ps cs h2⟩
 | .fn f a b,v,h=>by
  obtain⟨fs,cs,h1,h2,h3⟩:=h;exact⟨fs,cs,h1,RAs_fz a fs h2,RAs_fz b cs h3⟩
 | .ifc t x,v,h=>by
  obtain⟨z,h1,h2⟩:=h;exact⟨z,h1,ux x z h2⟩
 | .u,v,h=>h
 | .d _,v,h=>h
 | .pt _ _,v,h=>h
 | .sr _ _ _ _,v,h=>h
 | .mp _,v,h=>h
 | .pe _ _ _,v,h=>h
 | .ow _ _ _ _ _,v,h=>h
 | .fs _,v,h=>h
 | .osf _ _ _,v,h=>h
 | .pem _ _ _ _,v,h=>h
 | .yl _,v,h=>h
 | .kv _ _,v,h=>h
theorem RAs_fz:∀(xs:List AV)(vs:List Value),RAs m φ w xs vs->RAs m φ w (fzAs id ver y xs) vs
 |[],vs,h=>h
 |x::xs,vs,h=>by
  obtain⟨c,cs,h1,h2,h3⟩:=h;exact⟨c,cs,h1,ux x c h2,RAs_fz xs cs h3⟩
end
end
theorem gv(id ver:Nat)(y:AV):∀xs:List AV,fzAs id ver y xs=xs.map (fzA id ver y)
 |[]=>rfl
 |x::xs=>by rw[fzAs,gv id ver y xs,List.map_cons]
def fzO(id ver:Nat)(y:AV):AO->AO
 | .row T cs=> .row T (fzAs id ver y cs)
 | .os T k v es=> .os T k v (es.map (fzAs id ver y))
 |o=>o
theorem qE(id ver:Nat)(y:AV):∀es:List (List AV),(es.map (fzAs id ver y)).flatten=fzAs id ver y es.flatten
 |[]=>rfl
 |e::es=>by
  rw[List.map_cons,List.flatten_cons,List.flatten_cons,qE id ver y es,gv,gv,gv,List.map_append]
theorem OR_fz{m:List Cz}{φ:Nat->Nat}{w:World}{id ver:Nat}{y:AV}{yv:Value}(hm:m[id]? =some (.tok ver yv))(hy:RA m φ w y yv){o:AO}{c:Cz}(h:OR m φ w o c):OR m φ w (fzO id ver y o) c:=by
 cases o with
 |row T cs=>obtain⟨b,h1,h2,vs,h3,h4⟩:=h;exact⟨b,h1,h2,vs,h3,RAs_fz hm hy _ _ h4⟩
 |os T k v es=>obtain⟨z,xs,h1,h2,h3,h4,h5⟩:=h;refine⟨z,xs,h1,by rw[List.length_map];exact h2,by rw[qE];exact RAs_fz hm hy _ _ h3,λe he=>?_,h5⟩;grind [gv]
 |_=>exact h
theorem tS(id ver:Nat)(y:AV)(o:AO):(fzO id ver y o).live=o.live:=by cases o<;>rfl
theorem SR_fz{m:List Cz}{φ:Nat->Nat}{w:World}{st:List AO}{id ver:Nat}{y:AV}{yv:Value}(hm:m[id]? =some (.tok ver yv))(hy:RA m φ w y yv)(h:SR m φ st w):SR m φ (st.map (fzO id ver y)) w:=by refine⟨by rw[List.length_map];exact h.len,λi o c ho hc=>?_,h.lt,λi j o o' c c' b ho ho' hl hl' hc hc' hb hb'=>?_,h.gl,h.nb⟩;rw[List.getElem?_map,Option.map_eq_some_iff] at ho;obtain⟨o0,h0,rfl⟩:=ho;exact OR_fz hm hy (h.obj i o0 c h0 hc);rw[List.getElem?_map,Option.map_eq_some_iff] at ho ho';obtain⟨o0,h0,rfl⟩:=ho;obtain⟨o1,h1,rfl⟩:=ho';rw[tS] at hl hl';exact h.inj i j o0 o1 c c' b h0 h1 hl hl' hc hc' hb hb'
def fzE(id ver:Nat)(y:AV)(env:Env):Env:=env.map λp=>(p.1,fzA id ver y p.2)
theorem qF{id ver:Nat}{y:AV}:∀{env:Env}{t:Nat}{x:AV},(fzE id ver y env).get t=some x->∃x0,env.get t=some x0/\x=fzA id ver y x0
 |[],t,x,h=>by cases h
 |(k,v)::env,t,x,h=>by
  have h:(bif Nat.beq t k then some (fzA id ver y v) else Env.get (fzE id ver y env) t)=some x:=h;show∃x0,(bif Nat.beq t k then some v else Env.get env t)=some x0/\_;cases hb:Nat.beq t k with
  |true=>grind
  |false=>rw[hb] at h;exact qF h
theorem gh_fz{e:En}{env:Env}{st:List AO}{id ver T k:Nat}{ds:List (List D)}(hs:st[id]? =some (.os T k ver (ds.map λe=>e.map AV.d))):
  Gh e env st (fzE id ver (.d (.sl ds)) env) ((st.set id .dead).map (fzO id ver (.d (.sl ds)))):=λm φ a w hi=>by
 obtain⟨c,hcm⟩:∃c,m[id]? =some c:=by
  have:id<m.length:=by rw[hi.sr.len];exact(giS.1 hs).1
  exact⟨_,geG this⟩
 obtain⟨yv,xs,rfl,_⟩:=hi.sr.obj id _ _ hs hcm;obtain⟨φ',f1,f2,f3⟩:=jx hi.sr hs hcm;have h3:=hi.go f1 f2;have hy:RA m φ' w (.d (.sl ds)) yv:=by simpa[RA] using f3
 refine⟨m,φ',SR_fz hcm hy h3.sr,h3.ev,⟨λt x hx=>?_,h3.env.gl⟩,h3.sz,h3.df⟩;obtain⟨x0,g1,rfl⟩:=qF hx;obtain⟨v,q1,q2⟩:=h3.env.get t x0 g1;exact⟨v,q1,ux hcm hy _ _ q2⟩
def unD:AV->Option D
 | .d (.v (.slice none 0 0))=>some (.sl [])
 | .d x=>some x
 |_=>none
def uK:List AV->Option (List D)
 |[]=>some []
 |x::l=>match unD x,uK l with
  |some d,some ds=>some (d::ds)
  |_,_=>none
def qd:List (List AV)->Option (List (List D))
 |[]=>some []
 |x::l=>match uK x,qd l with
  |some d,some ds=>some (d::ds)
  |_,_=>none
theorem xh{x:AV}{d:D}(h:unD x=some d):Le x (.d d):=by unfold unD at h;grind [Le.nil,Le.refl]
theorem qe:∀{xs:List AV}{ds:List D},uK xs=some ds->Les xs (ds.map .d)
 |[],ds,h=>by obtain rfl:=inS h;exact Les.refl _
 |x::xs,ds,h=>by
  unfold uK at h;split at h;rename_i h1 h2;obtain rfl:=inS h;exact⟨xh h1,qe h2⟩;cases h
theorem nL:∀{es:List (List AV)}{ds:List (List D)},qd es=some ds->Les es.flatten (ds.map λe=>e.map AV.d).flatten/\es.length=ds.length/\∀k,(∀e∈es,e.length=k)->∀e∈ds.map λe=>e.map AV.d,e.length=k
 |[],ds,h=>by obtain rfl:=inS h;exact⟨Les.refl _,rfl,λk _ e he=>by cases he⟩
 |x::es,ds,h=>by
  unfold qd at h;split at h;rename_i d ds' h1 h2;obtain rfl:=inS h;obtain⟨q1,q2,q3⟩:=nL h2;have hx:=qe h1;refine⟨by rw[List.flatten_cons,List.map_cons,List.flatten_cons];exact Les.app hx q1,by simp[q2],λk hk e he=>?_⟩;rcases List.mem_cons.1 he with rfl|he
  grind [Les.len,List.mem_cons_self];exact q3 k (λe he=>hk e (List.mem_cons_of_mem _ he)) e he;cases h
theorem rP{e:En}{env:Env}{st:List AO}{id ver T k:Nat}{es es':List (List AV)}(hs:st[id]? =some (.os T k ver es))(h:Les es.flatten es'.flatten)(hl:es.length=es'.length)(hk:∀k,(∀e∈es,e.length=k)->∀e∈es',e.length=k):
  Gh e env st env (st.set id (.os T k ver es')):=λm φ a w hi=>by
 refine⟨m,φ,⟨⟨by rw[List.length_set];exact hi.sr.len,λi o c ho hc=>?_,hi.sr.lt,λi j o o' c c' b ho ho' hl1 hl2 hc hc' hb hb'=>?_,hi.sr.gl,hi.sr.nb⟩,hi.ev,hi.env,hi.sz,hi.df⟩⟩;by_cases hid:id=i;subst hid;rw[List.getElem?_set_self (giS.1 hs).1] at ho;obtain rfl:=inS ho;have h0:=hi.sr.obj id _ c hs hc;obtain⟨z,xs,h1,h2,h3,h4,h5⟩:=h0;exact⟨z,xs,h1,by rw[<-hl];exact h2,h.ras h3,hk _ h4,h5⟩;rw[List.getElem?_set_ne hid] at ho;exact hi.sr.obj i o c ho hc;have key:∀(i:Nat)(o:AO),(st.set id (.os T k ver es'))[i]? =some o->o.live=true->∃o0:AO,st[i]? =some o0/\o0.live=true:=λi o ho hl=>by
  by_cases hid:id=i;subst hid;exact⟨_,hs,rfl⟩;grind
 obtain⟨o0,g0,l0⟩:=key i o ho hl1;obtain⟨o1,g1,l1⟩:=key j o' ho' hl2;exact hi.sr.inj i j o0 o1 c c' b g0 g1 l0 l1 hc hc' hb hb'
theorem Gh.trans{e:En}{env env' env'':Env}{st st' st'':List AO}(h:Gh e env st env' st')(k:Gh e env' st' env'' st''):Gh e env st env'' st'':=λm φ a w hi=>by
 obtain⟨m',φ',h1⟩:=h m φ a w hi;exact k m' φ' a w h1
theorem Gh.refl{e:En}{env:Env}{st:List AO}:Gh e env st env st:=λm φ _ _ hi=>⟨m,φ,hi⟩
def xR(id:Nat)(env:Env)(st:List AO):Option (Env×List AO):=match st[id]? with
 |some (.os _ _ ver es)=>(match qd es with
  |some ds=>some (fzE id ver (.d (.sl ds)) env,(st.set id .dead).map (fzO id ver (.d (.sl ds))))
  |none=>none)
 |_=>none
theorem vI{e:En}{id:Nat}{env env':Env}{st st':List AO}(h:xR id env st=some (env',st')):Gh e env st env' st':=by unfold xR at h;split at h;rename_i T k ver es hs;split at h;rename_i ds hd;obtain⟨rfl,rfl⟩:=h;obtain⟨q1,q2,q3⟩:=nL hd;refine(rP hs q1 (by rw[List.length_map];exact q2) q3).trans ?_;have hlt:=(giS.1 hs).1;have:=gh_fz (e:=e) (env:=env) (st:=st.set id (.os T k ver (ds.map λe=>e.map AV.d))) (id:=id) (ds:=ds) (List.getElem?_set_self hlt);grind [List.set_set];cases h;cases h
mutual
def xN(st:List AO):Nat->AV->List Nat
 |0,_=> []
 |n+1,x=>match x with
  | .os id _=>(match st[id]? with
   |some (.os _ _ _ es)=>idsL st n es.flatten++ [id]
   |_=> [])
  | .ag ps=>idsL st n ps
  | .tu ps=>idsL st n ps
  | .fn _ a b=>idsL st n a++idsL st n b
  | .ifc _ y=>xN st n y
  |_=> []
def idsL(st:List AO):Nat->List AV->List Nat
 |0,_=> []
 |_,[]=> []
 |n+1,x::l=>xN st n x++idsL st n l
end
def rQ:List Nat->Env->List AO->Option (Env×List AO)
 |[],env,st=>some (env,st)
 |id::l,env,st=>match st[id]? with
  |some .dead=>rQ l env st
  |_=>(match xR id env st with
   |some (env',st')=>rQ l env' st'
   |none=>none)
theorem ne{e:En}:∀{l:List Nat}{env env':Env}{st st':List AO},rQ l env st=some (env',st')->Gh e env st env' st'
 |[],env,env',st,st',h=>by
  grind [rQ,Gh.refl]
 |id::l,env,env',st,st',h=>by
  unfold rQ at h;split at h;exact ne h;split at h;rename_i h1;exact(vI h1).trans (ne h);cases h
mutual
def leX:Nat->AV->D->Bool
 |0,_,_=>false
 |n+1,x,d=>match x with
  | .ag xs=>(match d with
   | .ag ds=>leXs n xs ds
   |_=>false)
  | .d (.ag ps)=>(match d with
   | .ag ds=>leXs n (ps.map .d) ds
   |_=>false)
  | .d (.v (.slice none 0 0))=>(match d with
   | .sl []=>true
   | .v (.slice none 0 0)=>true
   |_=>false)
  | .d a=>eqD a d
  |_=>false
def leXs:Nat->List AV->List D->Bool
 |0,_,_=>false
 |_,[],[]=>true
 |n+1,x::xs,d::ds=>leX n x d&&leXs n xs ds
 |_,_,_=>false
end
def unN:D->D
 | .v (.slice none 0 0)=> .sl []
 |x=>x
theorem xg{φ:Nat->Nat}{w:World}{x:D}{v:Value}(h:RD φ w x v):RD φ w (unN x) v:=by unfold unN;split;have:=Le.nil [] φ w v (by simpa[RA] using h);simpa[RA] using this;exact h
def dH(f:AV->Option D):List AV->Option (List D)
 |[]=>some []
 |x::l=>match f x,dH f l with|some d,some ds=>some (d::ds)|_,_=>none
def jm(f:AV->Option D):List (List AV)->Option (List (List D))
 |[]=>some []
 |x::l=>match dH f x,jm f l with|some d,some ds=>some (d::ds)|_,_=>none
def hO(st:List AO):Nat->AV->Option D
 |0,_=>none
 |n+1,x=>match x with
  | .d x=>some (unN x)
  | .ag ps=>(dH (hO st n) ps).map .ag
  | .os id ver=>match st[id]? with
   |some (.os _ _ ver' es)=>bif Nat.beq ver ver' then(jm (hO st n) es).map .sl else none
   |_=>none
  | .ow id ver off len lo=>match st[id]? with
   |some (.os _ k ver' es)=>bif Nat.beq ver ver'&&(Nat.beq off (lo*k)&&Nat.ble (lo+len) es.length) then(jm (hO st n) ((es.drop lo).take len)).map .sl else none
   |_=>none
  |_=>none
theorem gf{m φ w}{φ':Nat->Nat}{f:AV->Option D}(hf:∀x v d,RA m φ w x v->f x=some d->RD φ' w d v):∀{xs:List AV}{vs:List Value}{ds:List D},RAs m φ w xs vs->dH f xs=some ds->RFs φ' w ds vs
 |[],vs,ds,h,hv=>by
  simp only[dH,ay] at hv;subst hv;simpa[RAs,RFs] using h
 |x::xs,vs,ds,h,hv=>by
  simp only[RAs] at h;obtain⟨c,cs,rfl,h1,h2⟩:=h;simp only[dH] at hv;split at hv;rename_i d ds' e1 e2;simp only[ay] at hv;subst hv;simp only[RFs];exact⟨c,cs,rfl,hf _ _ _ h1 e1,gf hf h2 e2⟩;cases hv
theorem lR{f:AV->Option D}:∀{xs:List AV}{ds:List D},dH f xs=some ds->ds.length=xs.length
 |[],ds,hv=>by simp only[dH,ay] at hv;subst hv;rfl
 |x::xs,ds,hv=>by
  simp only[dH] at hv;split at hv;rename_i d ds' e1 e2;simp only[ay] at hv;subst hv;simp[lR e2];cases hv
theorem lU{f:AV->Option D}:∀{xs ys:List AV}{ds es:List D},dH f xs=some ds->dH f ys=some es->dH f (xs++ys)=some (ds++es)
 |[],ys,ds,es,h,k=>by simp only[dH,ay] at h;subst h;exact k
 |x::xs,ys,ds,es,h,k=>by
  simp only[dH] at h;split at h;rename_i d ds' e1 e2;simp only[ay] at h;subst h;simp only[List.cons_append,dH,e1,lU e2 k];cases h
theorem jl{f:AV->Option D}{k:Nat}:∀{es:List (List AV)}{ds:List (List D)},jm f es=some ds->(∀e∈es,e.length=k)->dH f es.flatten=some ds.flatten/\ds.length=es.length/\∀e∈ds,e.length=k
 |[],ds,hv,_=>by simp only[jm,ay] at hv;subst hv;exact⟨rfl,rfl,λe he=>by cases he⟩
 |x::xs,ds,hv,hk=>by
  simp only[jm] at hv;split at hv;rename_i d ds' e1 e2;simp only[ay] at hv;subst hv;obtain⟨h1,h2,h3⟩:=jl e2 (λe he=>hk e (List.mem_cons_of_mem _ he));refine⟨by rw[List.flatten_cons,List.flatten_cons];exact lU e1 h1,by simp[h2],λe he=>?_⟩;rcases List.mem_cons.1 he with rfl|he
  rw[lR e1];exact hk x List.mem_cons_self;exact h3 e he;cases hv
theorem nc{φ:Nat->Nat}{w:World}:Fz φ w (bl w) w:=λ_ _ _ _ h=>⟨cell_lt' (dO h),h⟩
where
 cell_lt' {w:World} {b off:Nat} {c:Value} (h:w.cell? ⟨b,off,none⟩=some c):off<bl w b:=by unfold World.cell? at h;unfold bl;split at h;rename_i cs t fr hh;simp only at hh;rw[hh];simp only[Option.isSome_none,Bool.false_eq_true,if_false] at h;exact(Array.getElem?_eq_some_iff.1 h).1;cases h
theorem p8{m φ st w}(hs:SR m φ st w):∀(n:Nat)(x:AV)(v:Value)(d:D),RA m φ w x v->hO st n x=some d->RD (bl w) w d v
 |0,x,v,d,_,hv=>by simp[hO] at hv
 |n+1,x,v,d,h,hv=>by
  have ih:=p8 hs n;cases x with
  |d x=>simp only[hO,ay] at hv;subst hv;simp only[RA] at h;exact xg (RD.mono nc _ _ h)
  |ag ps=>simp only[hO,Option.map_eq_some_iff] at hv;obtain⟨ds,h1,rfl⟩:=hv;simp only[RA] at h;obtain⟨cs,rfl,h2⟩:=h;simp only[RD];exact⟨cs,rfl,gf ih h2 h1⟩
  |os id ver=>
   simp only[hO] at hv;split at hv;rename_i T k ver' es hi;cases hb:Nat.beq ver ver' with
   |false=>rw[hb] at hv;cases hv
   |true=>
    rw[hb,cdT,Option.map_eq_some_iff] at hv;obtain⟨ds,hd,rfl⟩:=hv;have hver:=nbE hb;subst hver;simp only[RA] at h;obtain⟨v0,y0,g1,g2,g3⟩:=h;obtain⟨y',xs,e1,h1,h2,h3,h4⟩:=hs.obj id _ _ hi g1;simp only[Cz.tok.injEq] at e1;obtain⟨rfl,rfl⟩:=e1;have hy:=g3 rfl;subst hy;obtain⟨f1,f2,f3⟩:=jl hd h3;have h2':RFs (bl w) w ds.flatten xs:=gf ih h2 f1;simp only[RD];rw[<-f2] at h1;rcases h1.2 with⟨rfl,hn⟩|⟨g,cap,cur,rfl,_,hg,hnc,_,_,_⟩
    exact .inl ⟨List.eq_nil_of_length_eq_zero hn,none,0,rfl,λ_=>rfl⟩;refine .inr ⟨g,0,k,cap,rfl,hnc,f3,eH f3 h2' λj v hj=>?_⟩;have:=ic h1 hj;rw[Nat.zero_add];exact⟨nc.cell_lt' (dO this),this⟩
   cases hv
  |ow id ver off len lo=>
   simp only[hO] at hv;split at hv;rename_i T k ver' es hi;cases hb:(Nat.beq ver ver'&&(Nat.beq off (lo*k)&&Nat.ble (lo+len) es.length)) with
   |false=>rw[hb] at hv;cases hv
   |true=>
    rw[hb,cdT,Option.map_eq_some_iff] at hv;obtain⟨ds,hd,rfl⟩:=hv;rw[Bool.and_eq_true,Bool.and_eq_true] at hb;obtain⟨hb1,hb2,hb3⟩:=hb;have hver:=nbE hb1;have hoff:=nbE hb2;have hfit:=nbT hb3;subst hver;subst hoff;obtain⟨y,xs,g1,h1,h2,h3,h4,h5⟩:=rF hs Piece.ow h hi;have h3':∀e∈(es.drop lo).take len,e.length=k:=λe he=>h3 e (List.mem_of_mem_drop (List.mem_of_mem_take he));obtain⟨f1,f2,f3⟩:=jl hd h3';have hfl:((es.drop lo).take len).flatten=(es.flatten.drop (lo*k)).take (len*k):=by rw[fh _ _ (λe he=>h3 e (List.mem_of_mem_drop he)),gW _ _ h3]
    have h2':RAs m φ w ((es.drop lo).take len).flatten ((xs.drop (lo*k)).take (len*k)):=by rw[hfl];exact cq _ (cx _ h2)
    have h2'':RFs (bl w) w ds.flatten ((xs.drop (lo*k)).take (len*k)):=gf ih h2' f1;have hlen:ds.length=len:=by rw[f2,List.length_take,List.length_drop];omega
    have hxl:=h1.1;simp only[RD];rcases h5 with⟨_,rfl,rfl⟩|⟨b,nn,cap,off',rfl,rfl,ho⟩
    exact .inl ⟨List.eq_nil_of_length_eq_zero hlen,none,0,rfl,λ_=>rfl⟩;by_cases h0:len=0;subst h0;exact .inl ⟨List.eq_nil_of_length_eq_zero hlen,_,_,rfl,λh=>by cases h⟩;have ho2:off'=lo*k:=ho.resolve_right h0;subst ho2;have hcap:nn=es.length/\nn<=cap:=by
     rcases h1.2 with⟨e1,_⟩|⟨g,cap',cur,e1,_,_,hnc,_,_,_⟩
     cases e1;simp only[Value.slice.injEq] at e1;obtain⟨_,rfl,rfl⟩:=e1;exact⟨rfl,hnc⟩
    refine .inr ⟨b,lo*k,k,cap - lo,by rw[hlen],oM,f3,eH f3 h2'' λj v hj=>?_⟩;have hj2:xs[lo*k+j]? =some v:=by rw[List.getElem?_take] at hj;split at hj;rw[List.getElem?_drop] at hj;exact hj;cases hj
    have:=ic h1 hj2;exact⟨nc.cell_lt' (dO this),this⟩
   cases hv
  |_=>simp[hO] at hv
section
variable{P:Program}{env:Env}{st:List AO}{dst:Option Tmp}{ty:TypeId}{pos:String}{after:Array Edge}{guard:Option (Nat×Bool)}
end
section
variable{P:Program}{e:En}{ops:Array Oper}{o:Oper}{rest:List Oper}{env:Env}{st:List AO}{R:Env->List AO->Prop}{d:Nat}
theorem ru{f:FuncId}{m φ w}{asz:List AV}{vs:List Value}{ds:List D}{y:D}{val:Value}(n:Nat)(hc:Pu P f ds y)(hg:y.gnd=some val)(hs:SR m φ st w)(ha:RAs m φ w asz vs)(hv:dH (hO st n) asz=some ds):
  Calls P f ⟨vs⟩ w λen w'=>en= .returned val/\Below w.heap.size w w':=by
 have h1:RFs (bl w) w ds vs:=gf (p8 hs n) ha hv;have hsr:SR [] (bl w) [] w:=nQ w (hs.gl.mono nc);refine(hc.2 [] (bl w) w vs hsr (cU h1)).mono ?_;rintro en w' ⟨v,r,st',m',φ',rfl,⟨rfl,rfl⟩,hev,_,hra⟩;have hv2:=uw (by simpa[RA] using hra) hg;subst hv2;exact⟨rfl,hev.os,hev.tape,hev.output,hev.size,λb hb=>(hev.keep b hb (by simp[In])).1⟩
end
theorem sJ{P:Program}{f:FuncId}{asz:List AV}{st:List AO}{ds:List D}{y:D}{val:Value}(n:Nat)(hc:Pu P f ds y)(hg:y.gnd=some val)(hv:dH (hO st n) asz=some ds):Ctr P f asz st (λr' s'=>r'= .d y/\s'=st):=
 ⟨hc.1,λm φ w vs hs ha=>(ru n hc hg hs ha hv).mono λen w' h=>⟨val, .d y,st,m,φ,h.1,⟨rfl,rfl⟩,Ev.of_below hs h.2,hs.of_below h.2,by simpa[RA] using tQ hg⟩⟩
def knV:List (FuncId×List D×D)->cg
 |[],_,_,_=>none
 |(g,ds,y)::tab,f,asz,st=>bif Nat.beq g f&&(y.gnd.isSome&&(match dH (hO st 100) asz with
  |some ds'=>eqDs ds' ds
  |none=>false)) then some (.d y,st) else knV tab f asz st
theorem tM{P:Program}:∀{tab:List (FuncId×List D×D)},(∀p∈tab,Pu P p.1 p.2.1 p.2.2)->cW P (knV tab)
 |[],_,f,asz,st,r,st',h=>by cases h
 |(g,ds,y)::tab,ht,f,asz,st,r,st',h=>by
  unfold knV at h;cases hb:(Nat.beq g f&&(y.gnd.isSome&&(match dH (hO st 100) asz with
   |some ds'=>eqDs ds' ds
   |none=>false))) with
  |false=>rw[hb] at h;exact tM (λp hp=>ht p (List.mem_cons_of_mem _ hp)) f asz st r st' h
  |true=>rw[hb] at h;simp only[cdT,ay,Prod.mk.injEq] at h;obtain⟨rfl,rfl⟩:=h;rw[Bool.and_eq_true,Bool.and_eq_true] at hb;obtain⟨h1,h2,h3⟩:=hb;have e:=nbE h1;subst e;obtain⟨val,hval⟩:=Option.isSome_iff_exists.1 h2;split at h3;rename_i ds' hv;have:=eqDs_ok h3;subst this;exact sJ 100 (ht _ List.mem_cons_self) hval hv;cases h3
def orX(a b:cg):cg:=λf asz st=>match a f asz st with
 |some r=>some r
 |none=>b f asz st
theorem sY{P:Program}{a b:cg}(ha:cW P a)(hb:cW P b):cW P (orX a b):=λf asz st r st' h=>by
 unfold orX at h;split at h;rename_i h1;obtain rfl:=inS h;exact ha _ _ _ _ _ h1;exact hb _ _ _ _ _ h
def xQ:fa:=λo env st=>match o.op with
 | .slice _ x _ _ _=>(match opv env x with
  |some (.os id v)=>rQ (xN st 64 (.os id v)) env st
  |_=>none)
 |_=>none
theorem vH:jL xQ:=λe o env st env' st' h=>by
 unfold xQ at h;split at h;split at h;exact ne h;cases h;cases h
theorem rE{P:Program}{f:FuncId}{asz:List D}{r:D}{st':List AO}(h:Ctr P f (asz.map .d) [] λr' s'=>r'= .d r/\s'=st'):Pu P f asz r:=by refine⟨h.1,λm φ w vs hs ha=>(h.2 m φ w vs hs ha).mono ?_⟩;rintro en w' ⟨v,r',s',m',φ',rfl,⟨rfl,rfl⟩,hev,hsr,hra⟩;have hm:m=[]:=List.eq_nil_of_length_eq_zero hs.len;subst hm;exact⟨v,_,[],[],φ',rfl,⟨rfl,rfl⟩,⟨Pre.refl _,λ_ h=> .inl h,hev.os,hev.tape,hev.output,hev.size,hev.keep,hev.fz⟩,hsr.nil,by simpa[RA] using hra⟩
def knM:List (FuncId×List AV×List AO×AV×List AO)->cg
 |[],_,_,_=>none
 |(g,xs,s,r,s')::tab,f,asz,st=>bif Nat.beq g f&&(eqAVs asz xs&&jW st s) then some (r,s') else knM tab f asz st
theorem tN{P:Program}:∀{tab:List (FuncId×List AV×List AO×AV×List AO)},(∀p∈tab,Ctr P p.1 p.2.1 p.2.2.1 λr' s'=>r'=p.2.2.2.1/\s'=p.2.2.2.2)->cW P (knM tab)
 |[],_,f,asz,st,r,st',h=>by cases h
 |(g,xs,s,r0,s0)::tab,ht,f,asz,st,r,st',h=>by
  unfold knM at h;cases hb:(Nat.beq g f&&(eqAVs asz xs&&jW st s)) with
  |false=>rw[hb] at h;exact tN (λp hp=>ht p (List.mem_cons_of_mem _ hp)) f asz st r st' h
  |true=>rw[hb] at h;simp only[cdT,ay,Prod.mk.injEq] at h;obtain⟨rfl,rfl⟩:=h;rw[Bool.and_eq_true,Bool.and_eq_true] at hb;have e:=nbE hb.1;subst e;rw[eqAVs_ok hb.2.1,iW hb.2.2];exact ht _ List.mem_cons_self
abbrev wX:=FuncId->List AV->List AO->Option (List (AV×List AO))
section
variable{P:Program}{t:Ty}{nt:Nat}{call:wX}{yld:ld}{hook:fa}{e:En}{ops:Array Oper}{R:Env->List AO->Prop}
end
section
variable{P:Program}[PC P]{t:Ty}{nt:Nat}{call:wX}{yld:ld}{top:Bool}{hook:fa}{e:En}
end
section
variable{P:Program}[PC P]{t:Ty}
end
theorem Y1{a0 b:Prop}(k:b)(ha0:a0:=by exact O1 rfl (λ_=>rfl) rfl rfl):a0/\b:=⟨ha0,k⟩
theorem Y2{a0 a1 b:Prop}(k:b)(ha0:a0:=by exact O1 rfl (λ_=>rfl) rfl rfl)(ha1:a1:=by exact O1 rfl (λ_=>rfl) rfl rfl):a0/\a1/\b:=⟨ha0,ha1,k⟩
theorem Y4{a0 a1 a2 a3 b:Prop}(k:b)(ha0:a0:=by exact O1 rfl (λ_=>rfl) rfl rfl)(ha1:a1:=by exact O1 rfl (λ_=>rfl) rfl rfl)(ha2:a2:=by exact O1 rfl (λ_=>rfl) rfl rfl)(ha3:a3:=by exact O1 rfl (λ_=>rfl) rfl rfl):a0/\a1/\a2/\a3/\b:=⟨ha0,ha1,ha2,ha3,k⟩
theorem Y5{a0 a1 a2 a3 a4 b:Prop}(k:b)(ha0:a0:=by exact O1 rfl (λ_=>rfl) rfl rfl)(ha1:a1:=by exact O1 rfl (λ_=>rfl) rfl rfl)(ha2:a2:=by exact O1 rfl (λ_=>rfl) rfl rfl)(ha3:a3:=by exact O1 rfl (λ_=>rfl) rfl rfl)(ha4:a4:=by exact O1 rfl (λ_=>rfl) rfl rfl):a0/\a1/\a2/\a3/\a4/\b:=⟨ha0,ha1,ha2,ha3,ha4,k⟩
theorem Y7{a0 a1 a2 a3 a4 a5 a6 b:Prop}(k:b)(ha0:a0:=by exact O1 rfl (λ_=>rfl) rfl rfl)(ha1:a1:=by exact O1 rfl (λ_=>rfl) rfl rfl)(ha2:a2:=by exact O1 rfl (λ_=>rfl) rfl rfl)(ha3:a3:=by exact O1 rfl (λ_=>rfl) rfl rfl)(ha4:a4:=by exact O1 rfl (λ_=>rfl) rfl rfl)(ha5:a5:=by exact O1 rfl (λ_=>rfl) rfl rfl)(ha6:a6:=by exact O1 rfl (λ_=>rfl) rfl rfl):a0/\a1/\a2/\a3/\a4/\a5/\a6/\b:=⟨ha0,ha1,ha2,ha3,ha4,ha5,ha6,k⟩
theorem Y8{a0 a1 a2 a3 a4 a5 a6 a7 b:Prop}(k:b)(ha0:a0:=by exact O1 rfl (λ_=>rfl) rfl rfl)(ha1:a1:=by exact O1 rfl (λ_=>rfl) rfl rfl)(ha2:a2:=by exact O1 rfl (λ_=>rfl) rfl rfl)(ha3:a3:=by exact O1 rfl (λ_=>rfl) rfl rfl)(ha4:a4:=by exact O1 rfl (λ_=>rfl) rfl rfl)(ha5:a5:=by exact O1 rfl (λ_=>rfl) rfl rfl)(ha6:a6:=by exact O1 rfl (λ_=>rfl) rfl rfl)(ha7:a7:=by exact O1 rfl (λ_=>rfl) rfl rfl):a0/\a1/\a2/\a3/\a4/\a5/\a6/\a7/\b:=⟨ha0,ha1,ha2,ha3,ha4,ha5,ha6,ha7,k⟩
theorem X2a{a0 a1 b:Prop}(k:b)(h0:a0:=by exact O2 rfl (λ_=>rfl) rfl rfl)(h1:a1:=by exact O2 rfl (λ_=>rfl) rfl rfl):(a0/\a1/\True)/\b:=⟨⟨h0,h1,trivial⟩,k⟩
theorem X2b{a00 a01 a10 a11 b:Prop}(k:b)(ha00:a00:=by exact O2 rfl (λ_=>rfl) rfl rfl)(ha01:a01:=by exact O2 rfl (λ_=>rfl) rfl rfl)(ha10:a10:=by exact O2 rfl (λ_=>rfl) rfl rfl)(ha11:a11:=by exact O2 rfl (λ_=>rfl) rfl rfl):(a00/\a01/\True)/\(a10/\a11/\True)/\b:=⟨⟨ha00,ha01,trivial⟩,⟨ha10,ha11,trivial⟩,k⟩
theorem rc{P:Program}{e:En}[T:Tys P]{l:List Oper}{rs:List AV}{base:Env}{sts:Nat->List AO}{k d c c':Nat}{o:Oper}{pk bk:List Nat}{a b:Bool}(hb:a=b)(h:∀F:Env,iI T.t e.n l.toArray (sts c) 1 [o] (dq l rs base pk bk++F)=some ([],(d, .d (.v (.bool a)))::(dq l rs base pk bk++F)):=by exact λ_=>rfl)(hd:o.dst=some d:=by exact rfl)(hr:rs[k]? =some (.d (.v (.bool b))):=by exact rfl)(hu:sts c=sts c':=by exact rfl):Ob P e l rs base sts k o pk bk c c':=
 λF=>Rl 1 (h F) (WL.cast d (by simp[bi]) (yr (Cb hb)) (ur hd hr hu))
theorem zo{a b:Prop}(h:a)(k:b):(a/\True)/\b:=⟨⟨h,trivial⟩,k⟩
abbrev p00:List Nat×List Nat×List Nat:=([],[],[0])
abbrev p01(y0:Nat):List Nat×List Nat×List Nat:=([],[y0],[0])
abbrev q01(y0 z:Nat):List Nat×List Nat×List Nat:=([],[y0],[z])
abbrev p10(x0:Nat):List Nat×List Nat×List Nat:=([x0],[],[0])
abbrev q10(x0 z:Nat):List Nat×List Nat×List Nat:=([x0],[],[z])
abbrev p11(x0 y0:Nat):List Nat×List Nat×List Nat:=([x0],[y0],[0])
abbrev p20(x0 x1:Nat):List Nat×List Nat×List Nat:=([x0,x1],[],[0])
abbrev q20(x0 x1 z:Nat):List Nat×List Nat×List Nat:=([x0,x1],[],[z])
abbrev p30(x0 x1 x2:Nat):List Nat×List Nat×List Nat:=([x0,x1,x2],[],[0])
abbrev p33(x0 x1 x2 y0 y1 y2:Nat):List Nat×List Nat×List Nat:=([x0,x1,x2],[y0,y1,y2],[0])
abbrev u01(y0:Nat):List Nat×List Nat×List Nat:=([],[y0],[0,1])
abbrev u10(x0:Nat):List Nat×List Nat×List Nat:=([x0],[],[0,1])
abbrev v10(x0:Nat):List Nat×List Nat×List Nat:=([x0],[],[1,2])
theorem Z6{α β γ δ ε ζ:Type}{a:α}{b:β}{c:γ}{d:δ}{e:ε}{f:ζ}:a=a/\b=b/\c=c/\d=d/\e=e/\f=f:=⟨rfl,rfl,rfl,rfl,rfl,rfl⟩
theorem Z2{α β:Type}{a:α}{b:β}:a=a/\b=b:=⟨rfl,rfl⟩
theorem Z4{α β γ δ:Type}{a:α}{b:β}{c:γ}{d:δ}:a=a/\b=b/\c=c/\d=d:=⟨rfl,rfl,rfl,rfl⟩
theorem Z3{α β γ:Type}{a:α}{b:β}{c:γ}:a=a/\b=b/\c=c:=⟨rfl,rfl,rfl⟩
theorem wF{P:Program}{e:En}{ops:Array Oper}{rest:List Oper}{env:Env}{st:List AO}{R:Env->List AO->Prop}{o:Oper}{d:Nat}{f:FuncId}{c:Call}{x:Operand}{first caps asz:List AV}{ds:List D}{y:D}(a:o.op= .call c/\c.callee= .value x/\opv env x=some (.fn (.func f) first caps)/\cw env c.args.toList=some asz)(hc:Pu P f ds y)(hl:Les (first++asz++caps) (ds.map .d))
  (b:o.guard=none/\o.dst=some d/\Nat.ble (d+1) e.n=true)(h:WL P e ops rest ((d, .d y)::env) st R):WL P e ops (o::rest) env st R:=WL.fn a.1 a.2.1 a.2.2.1 a.2.2.2 hc hl (Wt.none b.1) b.2.1 b.2.2 h
theorem sS{P:Program}{e:En}{ops:Array Oper}{rest:List Oper}{env:Env}{st:List AO}{R:Env->List AO->Prop}{T:TypeId}{x y:Operand}{id off n:Nat}{T':TypeId}{cs:List AV}{r:AV}{rs:List AV}{ty:TypeId}{pos:String}{after:Array Edge}(a:opv env x=some (.pt id off)/\st[id]? =some (.row T' cs)/\opv env y=some r/\r.okc=true/\r.cells=rs/\rs.all AV.ok1=true)
  (hn:bt P T=some n)(b:rs.length=n/\Nat.ble (off+n) cs.length=true)(h:WL P e ops rest env (st.set id (.row T' (cs.take off++rs++cs.drop (off+n)))) R):WL P e ops (⟨none, .store T x y,ty,pos,after,none⟩::rest) env st R:=
 WL.s0 (wa a.1 a.2.1 a.2.2.1 a.2.2.2.1 a.2.2.2.2.1 a.2.2.2.2.2 hn b.1 b.2) (Wt.none rfl) rfl h
section
variable{P:Program}{e:En}{ops:Array Oper}{l:List Oper}{st:List AO}{env env0 env1:Env}{R:Env->List AO->Prop}
theorem Nn{t d:Nat}{b z:Bool}(n:Nat)(h1:env1=env1.take n++((t, .d (.v (.bool b)))::env0):=by exact rfl)(h2:gw (env1.take n) env0=true:=by exact rfl)(h3:Env.get (env1.take n) d=some (.d (.v (.bool z))):=by exact rfl):WL P e ops [] env1 st (λenv' st'=>st'=st/\GrpJ env0 t b d z env'):=WL.nil ⟨rfl,env1.take n,h1,h2,h3⟩
theorem Rn [T:Tys P]{t d:Nat}{b z:Bool}(k n:Nat)(h:iI T.t e.n ops st k l env=some ([],env1):=by exact rfl)(h1:env1=env1.take n++((t, .d (.v (.bool b)))::env0):=by exact rfl)(h2:gw (env1.take n) env0=true:=by exact rfl)(h3:Env.get (env1.take n) d=some (.d (.v (.bool z))):=by exact rfl):WL P e ops l env st (λenv' st'=>st'=st/\GrpJ env0 t b d z env'):=Rl k h (Nn n h1 h2 h3)
theorem On [T:Tys P]{t d:Nat}{b z z':Bool}(k n:Nat)(hz:some z'=some z)(h:iI T.t e.n ops st k l env=some ([],env1):=by exact rfl)(h1:env1=env1.take n++((t, .d (.v (.bool b)))::env0):=by exact rfl)(h2:gw (env1.take n) env0=true:=by exact rfl)(h3:Env.get (env1.take n) d=some (.d (.v (.bool z'))):=by exact rfl):WL P e ops l env st (λenv' st'=>st'=st/\GrpJ env0 t b d z env'):=Rn k n h h1 h2 (h3.trans (by rw[inS hz]))
theorem AG [T:Tys P]{env2:Env}(k t d a n:Nat){x y:Bool}(hr:WL P e ops (l.drop k) ((d, .d (.v (.bool (x&&y))))::env) st R)(hx:env.get t=some (.d (.v (.bool x))):=by exact rfl)(h:iI T.t e.n ops st a (l.take k) ((t, .d (.v (.bool true)))::env)=some ([],env1):=by exact rfl)(h1:env1=env1.take n++((t, .d (.v (.bool true)))::env):=by exact rfl)(h2:gw (env1.take n) env=true:=by exact rfl)(h3:Env.get (env1.take n) d=some (.d (.v (.bool y))):=by exact rfl)
  (g:iI T.t e.n ops st a (l.take k) ((t, .d (.v (.bool false)))::env)=some ([],env2):=by exact rfl)(g1:env2=env2.take n++((t, .d (.v (.bool false)))::env):=by exact rfl)(g2:gw (env2.take n) env=true:=by exact rfl)(g3:Env.get (env2.take n) d=some (.d (.v (.bool false))):=by exact rfl):WL P e ops l env st R:=WL.and k hx (λ_=>Rn a n h h1 h2 h3) (Rn a n g g1 g2 g3) hr
theorem OG [T:Tys P]{env2:Env}(k t d a n:Nat){x y:Bool}(hr:WL P e ops (l.drop k) ((d, .d (.v (.bool (x||y))))::env) st R)(hx:env.get t=some (.d (.v (.bool x))):=by exact rfl)(h:iI T.t e.n ops st a (l.take k) ((t, .d (.v (.bool false)))::env)=some ([],env1):=by exact rfl)(h1:env1=env1.take n++((t, .d (.v (.bool false)))::env):=by exact rfl)(h2:gw (env1.take n) env=true:=by exact rfl)(h3:Env.get (env1.take n) d=some (.d (.v (.bool y))):=by exact rfl)
  (g:iI T.t e.n ops st a (l.take k) ((t, .d (.v (.bool true)))::env)=some ([],env2):=by exact rfl)(g1:env2=env2.take n++((t, .d (.v (.bool true)))::env):=by exact rfl)(g2:gw (env2.take n) env=true:=by exact rfl)(g3:Env.get (env2.take n) d=some (.d (.v (.bool true))):=by exact rfl):WL P e ops l env st R:=WL.or k hx (λ_=>Rn a n h h1 h2 h3) (Rn a n g g1 g2 g3) hr
theorem Gg(k t d:Nat)(z:Bool){x:Bool}{β:Type}{a b w:β}(hb:(bif x then a else b)=w)(h1:a=w->WL P e ops (l.take k) ((t, .d (.v (.bool true)))::env) st λenv' st'=>st'=st/\GrpJ env t true d z env')(h0:b=w->WL P e ops (l.take k) ((t, .d (.v (.bool false)))::env) st λenv' st'=>st'=st/\GrpJ env t false d z env')
  (hr:WL P e ops (l.drop k) ((d, .d (.v (.bool z)))::env) st R)(hx:env.get t=some (.d (.v (.bool x))):=by exact rfl):WL P e ops l env st R:=WL.grp k hx (λhh=>h1 (mj hb hh)) (λhh=>h0 (ml hb hh)) hr
end
theorem fI{P:Program}{f:FuncId}{fn:Func}{c:Code}{asz:List D}{x:D}{n:Nat}(hf:P.funcs[f]? =some fn)(h:∀φ w,WC P ⟨[],φ,w,n,none,none⟩ c (.fin fn (λr' st'=>r'= .d x/\st'=[])) (fB 0 (asz.map .d)) [])(h1:(fn.name== "runtime.NumGoroutine")=false:=by kernel_rfl)
  (h2:fn.body=some c:=by exact rfl)(h3:fn.ntmps=n:=by exact rfl)(h4:Nat.ble (asz.map AV.d).length n=true:=by exact rfl):Pu P f asz x:=tT hf h1 h2 h3 h4 h
theorem cI{P:Program}{f:FuncId}{fn:Func}{c:Code}{asz:List AV}{st:List AO}{Q:AV->List AO->Prop}{n:Nat}(hf:P.funcs[f]? =some fn)(h:∀m φ w,m.length=st.length->WC P ⟨m,φ,w,n,none,none⟩ c (.fin fn Q) (fB 0 asz) st)(h1:(fn.name== "runtime.NumGoroutine")=false:=by kernel_rfl)
  (h2:fn.body=some c:=by exact rfl)(h3:fn.ntmps=n:=by exact rfl)(h4:Nat.ble asz.length n=true:=by exact rfl):Ctr P f asz st Q:=jD hf h1 h2 h3 h4 h
end Go.Sk
