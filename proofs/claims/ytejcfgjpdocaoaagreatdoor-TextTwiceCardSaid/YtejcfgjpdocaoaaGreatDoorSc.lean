/-
  Joins, loops and the ends of branches asz lemmas; what is shown in one way always is the default of an argument.
-/
import Derived.Test.YtejcfgjpdocaoaaGreatDoorSb
set_option linter.unusedVariables false
set_option linter.unusedSimpArgs false
set_option linter.unusedSectionVars false
set_option linter.unnecessarySimpa false
namespace Go.Sk
open Go.RowKit (Below)
section
variable{P:Program}{e:En}{ops:Array Oper}{rest:List Oper}{env:Env}{st:List AO}{R:Env→List AO→Prop}{κ:Ko}{x y:Code}
theorem Lv{a b:AV}(h:Le a b:=by
 repeat' (first|exact Le.refl _|exact Le.nil|exact Le.u _|exact Le.fs _|exact Les.refl _|exact trivial|refine bQ ?_|refine aK ?_|refine Le.fnc ?_ ?_|refine⟨?_,?_⟩)):Le a b:=h
theorem Lw{a b:List AV}(h:Les a b:=by
 repeat' (first|exact Le.refl _|exact Le.nil|exact Le.u _|exact Le.fs _|exact Les.refl _|exact trivial|refine bQ ?_|refine aK ?_|refine Le.fnc ?_ ?_|refine⟨?_,?_⟩)):Les a b:=h
theorem Rv{f:Func}{r:AV}(h:Res P f env st r:=by
 first|exact rs1 rfl (bv rfl)|exact rs2 rfl (bv rfl) (bv rfl)|exact eg rfl|exact rs3 rfl (bv rfl) (bv rfl) (bv rfl)):Res P f env st r:=h
theorem Ci{c:Operand}{t:Bool}{β:Sort _}{a b z:β}(h:(bif t then a else b)=z)(hc:opv env c=some (.d (.v (.bool t))))(h1:a=z→WC P e x κ env st)(h0:b=z→WC P e y κ env st):WC P e (.cond c x y) κ env st:=eP hc (λhh=>h1 (eD h hh)) (λhh=>h0 (eE h hh))
theorem Ix{α β:Type}{E Q:α→List D}{L:List α}{i:Int}{F:α→Option β}{r:β}{T n d:Nat}{bb:Bool}{x ix:Operand}{xr:AV}{kk:IntKind}{ty:TypeId}{pos:String}{after:Array Edge}(h:Option.bind (idx L i) F=some r)(hT:aO P T=some (n,bb))(hE:∀x,E x=Q x)(hx:opv env x=some xr)(hle:Le xr (.d (.sl (L.map E))))(hi:opv env ix=some (.d (.v (.int kk i))))(hd:Nat.ble (d+1) e.n=true)
  (k:∀x,idx L i=some x→F x=some r→WL P e ops rest ((d, .d (.pc (Q x)))::env) st R)(hn:∀x,(Q x).length=n:=by exact λ_=>rfl):WL P e ops (⟨some d, .indexAddr T x ix,ty,pos,after,none⟩::rest) env st R:=by
 obtain⟨z,hz,h⟩:=ac h
 exact WL.qn (ai hT hx hle hi (aj hz) (au hE hz) (hn z)) hd (k z hz h)
theorem FA{a p:Prop}(ha:a)(h:a→p:=by
 intro h
 obtain rfl:=inS h
 exact aW Rv Lv):p:=h ha
theorem FB{a p:Prop}(ha:a)(h:a→p:=by
 intro h
 subst h
 exact aW Rv Lv):p:=h ha
variable{dd:Nat}{ty:TypeId}{pos:String}{after:Array Edge}
theorem Bd{T:TypeId}{x:Operand}{r:AV}{ds:List D}(hx:opv env x=some r)(hk:r.okc=true)(hc:Les r.cells (ds.map .d))(hd:Nat.ble (dd+1) e.n=true)(h:WL P e ops rest ((dd, .d (.pc ds))::env) st R):WL P e ops (⟨some dd, .box T x,ty,pos,after,none⟩::rest) env st R:=WL.s (lR hx hk hc).does (Wt.none rfl) rfl hd h
theorem Bx{T:TypeId}{x:Operand}{r:AV}(hx:opv env x=some r)(hk:r.okc=true)(hd:Nat.ble (dd+1) e.n=true)(h:WL P e ops rest ((dd, .pt st.length 0)::env) (st++ [.row T r.cells]) R):WL P e ops (⟨some dd, .box T x,ty,pos,after,none⟩::rest) env st R:=WL.s (b_box hx hk).does (Wt.none rfl) rfl hd h
theorem Al{T:TypeId}{vs:List Value}(hz:aL P T=some vs)(hd:Nat.ble (dd+1) e.n=true)(h:WL P e ops rest ((dd, .pt st.length 0)::env) (st++ [.row T (vs.map λv=> .d (.v v))]) R):WL P e ops (⟨some dd, .alloc T,ty,pos,after,none⟩::rest) env st R:=WL.s (rj hz).does (Wt.none rfl) rfl hd h
theorem Tv{a b:List AO}(h:SLe a b:=by
 first|exact SLe.refl _|repeat' (first|exact rfl|exact Le.refl _|exact Le.nil|exact Le.u _|exact Le.fs _|exact Les.refl _|exact trivial|refine bQ ?_|refine aK ?_|refine Le.fnc ?_ ?_|refine⟨?_,?_⟩)):SLe a b:=h
theorem Cb{b c:Bool}(h:b=c):D.v (Value.bool b)=D.v (Value.bool c):=by rw[h]
theorem Re{α:Type}{a:α}{l l':List α}(k:l=l'):a::l=a::l':=by rw[k]
theorem Kv{n:Nat}{l:List AO}(h:dG n l=true:=by
 first|exact rfl|repeat' (first|exact rfl|refine ep rfl ?_|refine ep (tD _ _ _ _ _ _) ?_|refine ep (tF _ _ _ _ _ _) ?_|refine ep (xV _ _ _ _ _ _ _ rfl) ?_)):dG n l=true:=h
theorem Sb{a b:Env}(h:Sub a b:=by
 repeat' (first|exact Sub.nil _|refine Sub.cons rfl ?_ ?_|exact Le.refl _|exact Le.nil|exact Le.u _|exact Le.fs _|exact Les.refl _|exact trivial|refine bQ ?_|refine aK ?_|refine Le.fnc ?_ ?_|refine⟨?_,?_⟩)):Sub a b:=h
section
universe uu
variable{β:Sort uu}{z:β}{n:Nat}{α0 α1 α2 α3 α4 α5 α6 α7 α8 α9 α10 α11 α12 α13 α14 α15 α16 α17 α18 α19 α20 α21 α22 α23 α24 α25 α26 α27 α28 α29 α30 α31 α32 α33 α34 α35:Type}
theorem Jn0(A:Env)(S:List AO){K:Unit→β}{F:(Unit→β)→β}(h:an K F=z)(h1:∀k:Unit→β,F k=z→WC P e x (.lp (λu v=>k ()=z∧Sub (A) u∧SLe v (S)) κ) env st)(h2:K ()=z→WC P e y κ (A) (S)):WC P e (.seq x y) κ env st:=by
 refine aY _ (h1 K h) ?_
 rintro u v ⟨h,hs,hw⟩
 exact WC.sub hs (WC.weak hw (h2 h))
theorem En0{A:Env}{S:List AO}{k:Unit→β}(h:k ()=z)(h0:Sub (A) env:=by exact Sb)(h1:SLe st (S):=by exact Tv):WE P e .normal (.lp (λu v=>k ()=z∧Sub (A) u∧SLe v (S)) κ) env st:=cF ⟨h,h0,h1⟩
theorem Jn1(A:α0→Env)(S:α0→List AO){K:α0→β}{F:(α0→β)→β}(h:an K F=z)(h1:∀k:α0→β,F k=z→WC P e x (.lp (λu v=>∃x0,k x0=z∧Sub (A x0) u∧SLe v (S x0)) κ) env st)(h2:∀x0,K x0=z→WC P e y κ (A x0) (S x0)):WC P e (.seq x y) κ env st:=by
 refine aY _ (h1 K h) ?_
 rintro u v ⟨x0,h,hs,hw⟩
 exact WC.sub hs (WC.weak hw (h2 x0 h))
theorem Ln1(A:α0→Env)(S:α0→List AO)(L:Nat→α0→β){N:Nat}{i0:α0}(h:L N i0=z)(hz:∀x0,L 0 x0=z→False)(hs':∀n x0,L (n+1) x0=z→WC P e x (.lp (λu v=>∃y,(∃x0,L y x0=z∧Sub (A x0) u∧SLe v (S x0))∧y<n+1) κ) (A x0) (S x0))(h0:Sub (A i0) env:=by exact Sb)(h1:SLe st (S i0):=by exact Tv):WC P e (.loop x) κ env st:=by
 refine be (λn u v=>∃x0,L n x0=z∧Sub (A x0) u∧SLe v (S x0)) (λn=>n) N ⟨_,h,h0,h1⟩ ?_
 rintro n u v ⟨x0,h,hs,hw⟩
 rcases n with _|n
 ·exact(hz x0 h).elim
 ·exact WC.sub hs (WC.weak hw (hs' n x0 h))
theorem En1{A:α0→Env}{S:α0→List AO}{k:α0→β}{i0:α0}(h:k i0=z)(h0:Sub (A i0) env:=by exact Sb)(h1:SLe st (S i0):=by exact Tv):WE P e .normal (.lp (λu v=>∃x0,k x0=z∧Sub (A x0) u∧SLe v (S x0)) κ) env st:=cF ⟨_,h,h0,h1⟩
theorem Fn1{A:α0→Env}{S:α0→List AO}{L:Nat→α0→β}{i0:α0}(h:L n i0=z)(h0:Sub (A i0) env:=by exact Sb)(h1:SLe st (S i0):=by exact Tv):WE P e .normal (.lp (λu v=>∃y,(∃x0,L y x0=z∧Sub (A x0) u∧SLe v (S x0))∧y<n+1) κ) env st:=cF ⟨n,⟨_,h,h0,h1⟩,Nat.lt_succ_self n⟩
theorem Jn2(A:α0→α1→Env)(S:α0→α1→List AO){K:α0→α1→β}{F:(α0→α1→β)→β}(h:an K F=z)(h1:∀k:α0→α1→β,F k=z→WC P e x (.lp (λu v=>∃x0 x1,k x0 x1=z∧Sub (A x0 x1) u∧SLe v (S x0 x1)) κ) env st)(h2:∀x0 x1,K x0 x1=z→WC P e y κ (A x0 x1) (S x0 x1)):WC P e (.seq x y) κ env st:=by
 refine aY _ (h1 K h) ?_
 rintro u v ⟨x0,x1,h,hs,hw⟩
 exact WC.sub hs (WC.weak hw (h2 x0 x1 h))
theorem Ln2(A:α0→α1→Env)(S:α0→α1→List AO)(L:Nat→α0→α1→β){N:Nat}{i0:α0}{i1:α1}(h:L N i0 i1=z)(hz:∀x0 x1,L 0 x0 x1=z→False)(hs':∀n x0 x1,L (n+1) x0 x1=z→WC P e x (.lp (λu v=>∃y,(∃x0 x1,L y x0 x1=z∧Sub (A x0 x1) u∧SLe v (S x0 x1))∧y<n+1) κ) (A x0 x1) (S x0 x1))(h0:Sub (A i0 i1) env:=by exact Sb)(h1:SLe st (S i0 i1):=by exact Tv):WC P e (.loop x) κ env st:=by
 refine be (λn u v=>∃x0 x1,L n x0 x1=z∧Sub (A x0 x1) u∧SLe v (S x0 x1)) (λn=>n) N ⟨_,_,h,h0,h1⟩ ?_
 rintro n u v ⟨x0,x1,h,hs,hw⟩
 rcases n with _|n
 ·exact(hz x0 x1 h).elim
 ·exact WC.sub hs (WC.weak hw (hs' n x0 x1 h))
theorem En2{A:α0→α1→Env}{S:α0→α1→List AO}{k:α0→α1→β}{i0:α0}{i1:α1}(h:k i0 i1=z)(h0:Sub (A i0 i1) env:=by exact Sb)(h1:SLe st (S i0 i1):=by exact Tv):WE P e .normal (.lp (λu v=>∃x0 x1,k x0 x1=z∧Sub (A x0 x1) u∧SLe v (S x0 x1)) κ) env st:=cF ⟨_,_,h,h0,h1⟩
theorem Fn2{A:α0→α1→Env}{S:α0→α1→List AO}{L:Nat→α0→α1→β}{i0:α0}{i1:α1}(h:L n i0 i1=z)(h0:Sub (A i0 i1) env:=by exact Sb)(h1:SLe st (S i0 i1):=by exact Tv):WE P e .normal (.lp (λu v=>∃y,(∃x0 x1,L y x0 x1=z∧Sub (A x0 x1) u∧SLe v (S x0 x1))∧y<n+1) κ) env st:=cF ⟨n,⟨_,_,h,h0,h1⟩,Nat.lt_succ_self n⟩
theorem Jn3(A:α0→α1→α2→Env)(S:α0→α1→α2→List AO){K:α0→α1→α2→β}{F:(α0→α1→α2→β)→β}(h:an K F=z)(h1:∀k:α0→α1→α2→β,F k=z→WC P e x (.lp (λu v=>∃x0 x1 x2,k x0 x1 x2=z∧Sub (A x0 x1 x2) u∧SLe v (S x0 x1 x2)) κ) env st)(h2:∀x0 x1 x2,K x0 x1 x2=z→WC P e y κ (A x0 x1 x2) (S x0 x1 x2)):WC P e (.seq x y) κ env st:=by
 refine aY _ (h1 K h) ?_
 rintro u v ⟨x0,x1,x2,h,hs,hw⟩
 exact WC.sub hs (WC.weak hw (h2 x0 x1 x2 h))
theorem En3{A:α0→α1→α2→Env}{S:α0→α1→α2→List AO}{k:α0→α1→α2→β}{i0:α0}{i1:α1}{i2:α2}(h:k i0 i1 i2=z)(h0:Sub (A i0 i1 i2) env:=by exact Sb)(h1:SLe st (S i0 i1 i2):=by exact Tv):WE P e .normal (.lp (λu v=>∃x0 x1 x2,k x0 x1 x2=z∧Sub (A x0 x1 x2) u∧SLe v (S x0 x1 x2)) κ) env st:=cF ⟨_,_,_,h,h0,h1⟩
theorem Fn3{A:α0→α1→α2→Env}{S:α0→α1→α2→List AO}{L:Nat→α0→α1→α2→β}{i0:α0}{i1:α1}{i2:α2}(h:L n i0 i1 i2=z)(h0:Sub (A i0 i1 i2) env:=by exact Sb)(h1:SLe st (S i0 i1 i2):=by exact Tv):WE P e .normal (.lp (λu v=>∃y,(∃x0 x1 x2,L y x0 x1 x2=z∧Sub (A x0 x1 x2) u∧SLe v (S x0 x1 x2))∧y<n+1) κ) env st:=cF ⟨n,⟨_,_,_,h,h0,h1⟩,Nat.lt_succ_self n⟩
theorem Jn4(A:α0→α1→α2→α3→Env)(S:α0→α1→α2→α3→List AO){K:α0→α1→α2→α3→β}{F:(α0→α1→α2→α3→β)→β}(h:an K F=z)(h1:∀k:α0→α1→α2→α3→β,F k=z→WC P e x (.lp (λu v=>∃x0 x1 x2 x3,k x0 x1 x2 x3=z∧Sub (A x0 x1 x2 x3) u∧SLe v (S x0 x1 x2 x3)) κ) env st)(h2:∀x0 x1 x2 x3,K x0 x1 x2 x3=z→WC P e y κ (A x0 x1 x2 x3) (S x0 x1 x2 x3)):WC P e (.seq x y) κ env st:=by
 refine aY _ (h1 K h) ?_
 rintro u v ⟨x0,x1,x2,x3,h,hs,hw⟩
 exact WC.sub hs (WC.weak hw (h2 x0 x1 x2 x3 h))
theorem Ln4(A:α0→α1→α2→α3→Env)(S:α0→α1→α2→α3→List AO)(L:Nat→α0→α1→α2→α3→β){N:Nat}{i0:α0}{i1:α1}{i2:α2}{i3:α3}(h:L N i0 i1 i2 i3=z)(hz:∀x0 x1 x2 x3,L 0 x0 x1 x2 x3=z→False)(hs':∀n x0 x1 x2 x3,L (n+1) x0 x1 x2 x3=z→WC P e x (.lp (λu v=>∃y,(∃x0 x1 x2 x3,L y x0 x1 x2 x3=z∧Sub (A x0 x1 x2 x3) u∧SLe v (S x0 x1 x2 x3))∧y<n+1) κ) (A x0 x1 x2 x3) (S x0 x1 x2 x3))(h0:Sub (A i0 i1 i2 i3) env:=by exact Sb)(h1:SLe st (S i0 i1 i2 i3):=by exact Tv):WC P e (.loop x) κ env st:=by
 refine be (λn u v=>∃x0 x1 x2 x3,L n x0 x1 x2 x3=z∧Sub (A x0 x1 x2 x3) u∧SLe v (S x0 x1 x2 x3)) (λn=>n) N ⟨_,_,_,_,h,h0,h1⟩ ?_
 rintro n u v ⟨x0,x1,x2,x3,h,hs,hw⟩
 rcases n with _|n
 ·exact(hz x0 x1 x2 x3 h).elim
 ·exact WC.sub hs (WC.weak hw (hs' n x0 x1 x2 x3 h))
theorem En4{A:α0→α1→α2→α3→Env}{S:α0→α1→α2→α3→List AO}{k:α0→α1→α2→α3→β}{i0:α0}{i1:α1}{i2:α2}{i3:α3}(h:k i0 i1 i2 i3=z)(h0:Sub (A i0 i1 i2 i3) env:=by exact Sb)(h1:SLe st (S i0 i1 i2 i3):=by exact Tv):WE P e .normal (.lp (λu v=>∃x0 x1 x2 x3,k x0 x1 x2 x3=z∧Sub (A x0 x1 x2 x3) u∧SLe v (S x0 x1 x2 x3)) κ) env st:=cF ⟨_,_,_,_,h,h0,h1⟩
theorem Fn4{A:α0→α1→α2→α3→Env}{S:α0→α1→α2→α3→List AO}{L:Nat→α0→α1→α2→α3→β}{i0:α0}{i1:α1}{i2:α2}{i3:α3}(h:L n i0 i1 i2 i3=z)(h0:Sub (A i0 i1 i2 i3) env:=by exact Sb)(h1:SLe st (S i0 i1 i2 i3):=by exact Tv):WE P e .normal (.lp (λu v=>∃y,(∃x0 x1 x2 x3,L y x0 x1 x2 x3=z∧Sub (A x0 x1 x2 x3) u∧SLe v (S x0 x1 x2 x3))∧y<n+1) κ) env st:=cF ⟨n,⟨_,_,_,_,h,h0,h1⟩,Nat.lt_succ_self n⟩
theorem Jn5(A:α0→α1→α2→α3→α4→Env)(S:α0→α1→α2→α3→α4→List AO){K:α0→α1→α2→α3→α4→β}{F:(α0→α1→α2→α3→α4→β)→β}(h:an K F=z)(h1:∀k:α0→α1→α2→α3→α4→β,F k=z→WC P e x (.lp (λu v=>∃x0 x1 x2 x3 x4,k x0 x1 x2 x3 x4=z∧Sub (A x0 x1 x2 x3 x4) u∧SLe v (S x0 x1 x2 x3 x4)) κ) env st)(h2:∀x0 x1 x2 x3 x4,K x0 x1 x2 x3 x4=z→WC P e y κ (A x0 x1 x2 x3 x4) (S x0 x1 x2 x3 x4)):WC P e (.seq x y) κ env st:=by
 refine aY _ (h1 K h) ?_
 rintro u v ⟨x0,x1,x2,x3,x4,h,hs,hw⟩
 exact WC.sub hs (WC.weak hw (h2 x0 x1 x2 x3 x4 h))
theorem En5{A:α0→α1→α2→α3→α4→Env}{S:α0→α1→α2→α3→α4→List AO}{k:α0→α1→α2→α3→α4→β}{i0:α0}{i1:α1}{i2:α2}{i3:α3}{i4:α4}(h:k i0 i1 i2 i3 i4=z)(h0:Sub (A i0 i1 i2 i3 i4) env:=by exact Sb)(h1:SLe st (S i0 i1 i2 i3 i4):=by exact Tv):WE P e .normal (.lp (λu v=>∃x0 x1 x2 x3 x4,k x0 x1 x2 x3 x4=z∧Sub (A x0 x1 x2 x3 x4) u∧SLe v (S x0 x1 x2 x3 x4)) κ) env st:=cF ⟨_,_,_,_,_,h,h0,h1⟩
theorem Jn6(A:α0→α1→α2→α3→α4→α5→Env)(S:α0→α1→α2→α3→α4→α5→List AO){K:α0→α1→α2→α3→α4→α5→β}{F:(α0→α1→α2→α3→α4→α5→β)→β}(h:an K F=z)(h1:∀k:α0→α1→α2→α3→α4→α5→β,F k=z→WC P e x (.lp (λu v=>∃x0 x1 x2 x3 x4 x5,k x0 x1 x2 x3 x4 x5=z∧Sub (A x0 x1 x2 x3 x4 x5) u∧SLe v (S x0 x1 x2 x3 x4 x5)) κ) env st)(h2:∀x0 x1 x2 x3 x4 x5,K x0 x1 x2 x3 x4 x5=z→WC P e y κ (A x0 x1 x2 x3 x4 x5) (S x0 x1 x2 x3 x4 x5)):WC P e (.seq x y) κ env st:=by
 refine aY _ (h1 K h) ?_
 rintro u v ⟨x0,x1,x2,x3,x4,x5,h,hs,hw⟩
 exact WC.sub hs (WC.weak hw (h2 x0 x1 x2 x3 x4 x5 h))
theorem En6{A:α0→α1→α2→α3→α4→α5→Env}{S:α0→α1→α2→α3→α4→α5→List AO}{k:α0→α1→α2→α3→α4→α5→β}{i0:α0}{i1:α1}{i2:α2}{i3:α3}{i4:α4}{i5:α5}(h:k i0 i1 i2 i3 i4 i5=z)(h0:Sub (A i0 i1 i2 i3 i4 i5) env:=by exact Sb)(h1:SLe st (S i0 i1 i2 i3 i4 i5):=by exact Tv):WE P e .normal (.lp (λu v=>∃x0 x1 x2 x3 x4 x5,k x0 x1 x2 x3 x4 x5=z∧Sub (A x0 x1 x2 x3 x4 x5) u∧SLe v (S x0 x1 x2 x3 x4 x5)) κ) env st:=cF ⟨_,_,_,_,_,_,h,h0,h1⟩
theorem Jn7(A:α0→α1→α2→α3→α4→α5→α6→Env)(S:α0→α1→α2→α3→α4→α5→α6→List AO){K:α0→α1→α2→α3→α4→α5→α6→β}{F:(α0→α1→α2→α3→α4→α5→α6→β)→β}(h:an K F=z)(h1:∀k:α0→α1→α2→α3→α4→α5→α6→β,F k=z→WC P e x (.lp (λu v=>∃x0 x1 x2 x3 x4 x5 x6,k x0 x1 x2 x3 x4 x5 x6=z∧Sub (A x0 x1 x2 x3 x4 x5 x6) u∧SLe v (S x0 x1 x2 x3 x4 x5 x6)) κ) env st)(h2:∀x0 x1 x2 x3 x4 x5 x6,K x0 x1 x2 x3 x4 x5 x6=z→WC P e y κ (A x0 x1 x2 x3 x4 x5 x6) (S x0 x1 x2 x3 x4 x5 x6)):WC P e (.seq x y) κ env st:=by
 refine aY _ (h1 K h) ?_
 rintro u v ⟨x0,x1,x2,x3,x4,x5,x6,h,hs,hw⟩
 exact WC.sub hs (WC.weak hw (h2 x0 x1 x2 x3 x4 x5 x6 h))
theorem Ln7(A:α0→α1→α2→α3→α4→α5→α6→Env)(S:α0→α1→α2→α3→α4→α5→α6→List AO)(L:Nat→α0→α1→α2→α3→α4→α5→α6→β){N:Nat}{i0:α0}{i1:α1}{i2:α2}{i3:α3}{i4:α4}{i5:α5}{i6:α6}(h:L N i0 i1 i2 i3 i4 i5 i6=z)(hz:∀x0 x1 x2 x3 x4 x5 x6,L 0 x0 x1 x2 x3 x4 x5 x6=z→False)(hs':∀n x0 x1 x2 x3 x4 x5 x6,L (n+1) x0 x1 x2 x3 x4 x5 x6=z→WC P e x (.lp (λu v=>∃y,(∃x0 x1 x2 x3 x4 x5 x6,L y x0 x1 x2 x3 x4 x5 x6=z∧Sub (A x0 x1 x2 x3 x4 x5 x6) u∧SLe v (S x0 x1 x2 x3 x4 x5 x6))∧y<n+1) κ) (A x0 x1 x2 x3 x4 x5 x6) (S x0 x1 x2 x3 x4 x5 x6))(h0:Sub (A i0 i1 i2 i3 i4 i5 i6) env:=by exact Sb)(h1:SLe st (S i0 i1 i2 i3 i4 i5 i6):=by exact Tv):WC P e (.loop x) κ env st:=by
 refine be (λn u v=>∃x0 x1 x2 x3 x4 x5 x6,L n x0 x1 x2 x3 x4 x5 x6=z∧Sub (A x0 x1 x2 x3 x4 x5 x6) u∧SLe v (S x0 x1 x2 x3 x4 x5 x6)) (λn=>n) N ⟨_,_,_,_,_,_,_,h,h0,h1⟩ ?_
 rintro n u v ⟨x0,x1,x2,x3,x4,x5,x6,h,hs,hw⟩
 rcases n with _|n
 ·exact(hz x0 x1 x2 x3 x4 x5 x6 h).elim
 ·exact WC.sub hs (WC.weak hw (hs' n x0 x1 x2 x3 x4 x5 x6 h))
theorem Fn7{A:α0→α1→α2→α3→α4→α5→α6→Env}{S:α0→α1→α2→α3→α4→α5→α6→List AO}{L:Nat→α0→α1→α2→α3→α4→α5→α6→β}{i0:α0}{i1:α1}{i2:α2}{i3:α3}{i4:α4}{i5:α5}{i6:α6}(h:L n i0 i1 i2 i3 i4 i5 i6=z)(h0:Sub (A i0 i1 i2 i3 i4 i5 i6) env:=by exact Sb)(h1:SLe st (S i0 i1 i2 i3 i4 i5 i6):=by exact Tv):WE P e .normal (.lp (λu v=>∃y,(∃x0 x1 x2 x3 x4 x5 x6,L y x0 x1 x2 x3 x4 x5 x6=z∧Sub (A x0 x1 x2 x3 x4 x5 x6) u∧SLe v (S x0 x1 x2 x3 x4 x5 x6))∧y<n+1) κ) env st:=cF ⟨n,⟨_,_,_,_,_,_,_,h,h0,h1⟩,Nat.lt_succ_self n⟩
theorem Jn8(A:α0→α1→α2→α3→α4→α5→α6→α7→Env)(S:α0→α1→α2→α3→α4→α5→α6→α7→List AO){K:α0→α1→α2→α3→α4→α5→α6→α7→β}{F:(α0→α1→α2→α3→α4→α5→α6→α7→β)→β}(h:an K F=z)(h1:∀k:α0→α1→α2→α3→α4→α5→α6→α7→β,F k=z→WC P e x (.lp (λu v=>∃x0 x1 x2 x3 x4 x5 x6 x7,k x0 x1 x2 x3 x4 x5 x6 x7=z∧Sub (A x0 x1 x2 x3 x4 x5 x6 x7) u∧SLe v (S x0 x1 x2 x3 x4 x5 x6 x7)) κ) env st)(h2:∀x0 x1 x2 x3 x4 x5 x6 x7,K x0 x1 x2 x3 x4 x5 x6 x7=z→WC P e y κ (A x0 x1 x2 x3 x4 x5 x6 x7) (S x0 x1 x2 x3 x4 x5 x6 x7)):WC P e (.seq x y) κ env st:=by
 refine aY _ (h1 K h) ?_
 rintro u v ⟨x0,x1,x2,x3,x4,x5,x6,x7,h,hs,hw⟩
 exact WC.sub hs (WC.weak hw (h2 x0 x1 x2 x3 x4 x5 x6 x7 h))
theorem Ln8(A:α0→α1→α2→α3→α4→α5→α6→α7→Env)(S:α0→α1→α2→α3→α4→α5→α6→α7→List AO)(L:Nat→α0→α1→α2→α3→α4→α5→α6→α7→β){N:Nat}{i0:α0}{i1:α1}{i2:α2}{i3:α3}{i4:α4}{i5:α5}{i6:α6}{i7:α7}(h:L N i0 i1 i2 i3 i4 i5 i6 i7=z)(hz:∀x0 x1 x2 x3 x4 x5 x6 x7,L 0 x0 x1 x2 x3 x4 x5 x6 x7=z→False)(hs':∀n x0 x1 x2 x3 x4 x5 x6 x7,L (n+1) x0 x1 x2 x3 x4 x5 x6 x7=z→WC P e x (.lp (λu v=>∃y,(∃x0 x1 x2 x3 x4 x5 x6 x7,L y x0 x1 x2 x3 x4 x5 x6 x7=z∧Sub (A x0 x1 x2 x3 x4 x5 x6 x7) u∧SLe v (S x0 x1 x2 x3 x4 x5 x6 x7))∧y<n+1) κ) (A x0 x1 x2 x3 x4 x5 x6 x7) (S x0 x1 x2 x3 x4 x5 x6 x7))(h0:Sub (A i0 i1 i2 i3 i4 i5 i6 i7) env:=by exact Sb)(h1:SLe st (S i0 i1 i2 i3 i4 i5 i6 i7):=by exact Tv):WC P e (.loop x) κ env st:=by
 refine be (λn u v=>∃x0 x1 x2 x3 x4 x5 x6 x7,L n x0 x1 x2 x3 x4 x5 x6 x7=z∧Sub (A x0 x1 x2 x3 x4 x5 x6 x7) u∧SLe v (S x0 x1 x2 x3 x4 x5 x6 x7)) (λn=>n) N ⟨_,_,_,_,_,_,_,_,h,h0,h1⟩ ?_
 rintro n u v ⟨x0,x1,x2,x3,x4,x5,x6,x7,h,hs,hw⟩
 rcases n with _|n
 ·exact(hz x0 x1 x2 x3 x4 x5 x6 x7 h).elim
 ·exact WC.sub hs (WC.weak hw (hs' n x0 x1 x2 x3 x4 x5 x6 x7 h))
theorem Jn10(A:α0→α1→α2→α3→α4→α5→α6→α7→α8→α9→Env)(S:α0→α1→α2→α3→α4→α5→α6→α7→α8→α9→List AO){K:α0→α1→α2→α3→α4→α5→α6→α7→α8→α9→β}{F:(α0→α1→α2→α3→α4→α5→α6→α7→α8→α9→β)→β}(h:an K F=z)(h1:∀k:α0→α1→α2→α3→α4→α5→α6→α7→α8→α9→β,F k=z→WC P e x (.lp (λu v=>∃x0 x1 x2 x3 x4 x5 x6 x7 x8 x9,k x0 x1 x2 x3 x4 x5 x6 x7 x8 x9=z∧Sub (A x0 x1 x2 x3 x4 x5 x6 x7 x8 x9) u∧SLe v (S x0 x1 x2 x3 x4 x5 x6 x7 x8 x9)) κ) env st)(h2:∀x0 x1 x2 x3 x4 x5 x6 x7 x8 x9,K x0 x1 x2 x3 x4 x5 x6 x7 x8 x9=z→WC P e y κ (A x0 x1 x2 x3 x4 x5 x6 x7 x8 x9) (S x0 x1 x2 x3 x4 x5 x6 x7 x8 x9)):WC P e (.seq x y) κ env st:=by
 refine aY _ (h1 K h) ?_
 rintro u v ⟨x0,x1,x2,x3,x4,x5,x6,x7,x8,x9,h,hs,hw⟩
 exact WC.sub hs (WC.weak hw (h2 x0 x1 x2 x3 x4 x5 x6 x7 x8 x9 h))
theorem Jn13(A:α0→α1→α2→α3→α4→α5→α6→α7→α8→α9→α10→α11→α12→Env)(S:α0→α1→α2→α3→α4→α5→α6→α7→α8→α9→α10→α11→α12→List AO){K:α0→α1→α2→α3→α4→α5→α6→α7→α8→α9→α10→α11→α12→β}{F:(α0→α1→α2→α3→α4→α5→α6→α7→α8→α9→α10→α11→α12→β)→β}(h:an K F=z)(h1:∀k:α0→α1→α2→α3→α4→α5→α6→α7→α8→α9→α10→α11→α12→β,F k=z→WC P e x (.lp (λu v=>∃x0 x1 x2 x3 x4 x5 x6 x7 x8 x9 x10 x11 x12,k x0 x1 x2 x3 x4 x5 x6 x7 x8 x9 x10 x11 x12=z∧Sub (A x0 x1 x2 x3 x4 x5 x6 x7 x8 x9 x10 x11 x12) u∧SLe v (S x0 x1 x2 x3 x4 x5 x6 x7 x8 x9 x10 x11 x12)) κ) env st)(h2:∀x0 x1 x2 x3 x4 x5 x6 x7 x8 x9 x10 x11 x12,K x0 x1 x2 x3 x4 x5 x6 x7 x8 x9 x10 x11 x12=z→WC P e y κ (A x0 x1 x2 x3 x4 x5 x6 x7 x8 x9 x10 x11 x12) (S x0 x1 x2 x3 x4 x5 x6 x7 x8 x9 x10 x11 x12)):WC P e (.seq x y) κ env st:=by
 refine aY _ (h1 K h) ?_
 rintro u v ⟨x0,x1,x2,x3,x4,x5,x6,x7,x8,x9,x10,x11,x12,h,hs,hw⟩
 exact WC.sub hs (WC.weak hw (h2 x0 x1 x2 x3 x4 x5 x6 x7 x8 x9 x10 x11 x12 h))
theorem Ln14(A:α0→α1→α2→α3→α4→α5→α6→α7→α8→α9→α10→α11→α12→α13→Env)(S:α0→α1→α2→α3→α4→α5→α6→α7→α8→α9→α10→α11→α12→α13→List AO)(L:Nat→α0→α1→α2→α3→α4→α5→α6→α7→α8→α9→α10→α11→α12→α13→β){N:Nat}{i0:α0}{i1:α1}{i2:α2}{i3:α3}{i4:α4}{i5:α5}{i6:α6}{i7:α7}{i8:α8}{i9:α9}{i10:α10}{i11:α11}{i12:α12}{i13:α13}(h:L N i0 i1 i2 i3 i4 i5 i6 i7 i8 i9 i10 i11 i12 i13=z)(hz:∀x0 x1 x2 x3 x4 x5 x6 x7 x8 x9 x10 x11 x12 x13,L 0 x0 x1 x2 x3 x4 x5 x6 x7 x8 x9 x10 x11 x12 x13=z→False)(hs':∀n x0 x1 x2 x3 x4 x5 x6 x7 x8 x9 x10 x11 x12 x13,L (n+1) x0 x1 x2 x3 x4 x5 x6 x7 x8 x9 x10 x11 x12 x13=z→WC P e x (.lp (λu v=>∃y,(∃x0 x1 x2 x3 x4 x5 x6 x7 x8 x9 x10 x11 x12 x13,L y x0 x1 x2 x3 x4 x5 x6 x7 x8 x9 x10 x11 x12 x13=z∧Sub (A x0 x1 x2 x3 x4 x5 x6 x7 x8 x9 x10 x11 x12 x13) u∧SLe v (S x0 x1 x2 x3 x4 x5 x6 x7 x8 x9 x10 x11 x12 x13))∧y<n+1) κ) (A x0 x1 x2 x3 x4 x5 x6 x7 x8 x9 x10 x11 x12 x13) (S x0 x1 x2 x3 x4 x5 x6 x7 x8 x9 x10 x11 x12 x13))(h0:Sub (A i0 i1 i2 i3 i4 i5 i6 i7 i8 i9 i10 i11 i12 i13) env:=by exact Sb)(h1:SLe st (S i0 i1 i2 i3 i4 i5 i6 i7 i8 i9 i10 i11 i12 i13):=by exact Tv):WC P e (.loop x) κ env st:=by
 refine be (λn u v=>∃x0 x1 x2 x3 x4 x5 x6 x7 x8 x9 x10 x11 x12 x13,L n x0 x1 x2 x3 x4 x5 x6 x7 x8 x9 x10 x11 x12 x13=z∧Sub (A x0 x1 x2 x3 x4 x5 x6 x7 x8 x9 x10 x11 x12 x13) u∧SLe v (S x0 x1 x2 x3 x4 x5 x6 x7 x8 x9 x10 x11 x12 x13)) (λn=>n) N ⟨_,_,_,_,_,_,_,_,_,_,_,_,_,_,h,h0,h1⟩ ?_
 rintro n u v ⟨x0,x1,x2,x3,x4,x5,x6,x7,x8,x9,x10,x11,x12,x13,h,hs,hw⟩
 rcases n with _|n
 ·exact(hz x0 x1 x2 x3 x4 x5 x6 x7 x8 x9 x10 x11 x12 x13 h).elim
 ·exact WC.sub hs (WC.weak hw (hs' n x0 x1 x2 x3 x4 x5 x6 x7 x8 x9 x10 x11 x12 x13 h))
end
theorem RO{id:Nat}{l:List Oper}(rs:List AV)(tc:List (List Nat))(es:List Nat)(L:List (List AO))(plan:List (List Nat×List Nat×List Nat))(hm:P.follows .mixedOrders=true)(hok:kg l tc es plan=true)(hrs:Nat.beq rs.length l.length=true)(hes:es.all (λy=>Nat.blt y l.length)=true)
  (hobs:Obs P e l rs env (λc=>List.getD (st::L) c []) es 0 l plan)(h:WE P e .normal κ (FL env (λk=>Nat.blt k l.length) (bi l rs 0)) (List.getD (st::L) es.length []))(hnf:bn l=true:=by kernel_rfl):WC P e (.region id l.toArray true) κ env st:=gR rs tc es _ plan hm hok hrs hes rfl hobs h hnf
def ye(x:Nat):List Nat→List Nat
 |[]=> [x]
 |y::l=>bif Nat.beq x y then y::l else y::ye x l
def tcF(l:List Oper):List (List Nat):=l.foldl (λacc o=>acc++ [o.after.toList.foldl (λr e=>bif Region.binds .any e then(acc.getD e.on []).foldl (λr x=>ye x r) (ye e.on r) else r) []]) []
theorem RT{id:Nat}{l:List Oper}(rs:List AV)(es:List Nat)(L:List (List AO))(plan:List (List Nat×List Nat×List Nat))(hm:P.follows .mixedOrders=true)(hok:kg l (tcF l) es plan=true)(hrs:Nat.beq rs.length l.length=true)(hes:es.all (λy=>Nat.blt y l.length)=true)
  (hobs:Obs P e l rs env (λc=>List.getD (st::L) c []) es 0 l plan)(h:WE P e .normal κ (FL env (λk=>Nat.blt k l.length) (bi l rs 0)) (List.getD (st::L) es.length []))(hnf:bn l=true:=by kernel_rfl):WC P e (.region id l.toArray true) κ env st:=RO rs (tcF l) es L plan hm hok hrs hes hobs h hnf
theorem O1 [T:Tys P]{l:List Oper}{rs:List AV}{base:Env}{sts:Nat→List AO}{k d c:Nat}{o:Oper}{pk bk:List Nat}{up:Bool}{r:AV}(hd:o.dst=some d)(h:∀F:Env,iK T.t e.n l.toArray (sts c) (cZ l rs base pk bk++F) o=some ((d,r)::(cZ l rs base pk bk++F)))(hr:rs[k]? =some r)(hu:up=false):ObC P e l rs base sts k o pk bk up [c]:=
 ⟨λF=>gg T.h (h F) (ft hd hr (by rw[hu];rfl)),trivial⟩
theorem O2 [T:Tys P]{l:List Oper}{rs:List AV}{base:Env}{sts:Nat→List AO}{k d c c':Nat}{o:Oper}{pk bk:List Nat}{r:AV}(hd:o.dst=some d)(h:∀F:Env,iK T.t e.n l.toArray (sts c) (cZ l rs base pk bk++F) o=some ((d,r)::(cZ l rs base pk bk++F)))(hr:rs[k]? =some r)(hu:c'=c):Ob P e l rs base sts k o pk bk c c':=
 λF=>gg T.h (h F) (ft hd hr (by rw[hu]))
def vv{α:Type}:List α→Option (List α)
 |[]=>some []
 |a::l=>match vv l with
  |some l'=>some (a::l')
  |none=>none
theorem qH{α:Type}:∀{l l':List α},vv l=some l'→l=l'
 |[],l',h=>inS h
 |a::l,l',h=>by
  dsimp only[vv] at h
  split at h
  ·rename_i hl;rw[qH hl];exact inS h
  ·cases h
def xS:AO→Option AO
 | .row T cs=>match vv cs with
  |some c=>some (.row T c)
  |none=>none
 |o=>some o
theorem vu{o o':AO}(h:xS o=some o'):o=o':=by
 cases o with
 |row T cs=>
  dsimp only[xS] at h
  split at h
  ·rename_i hl;rw[qH hl];exact inS h
  ·cases h
 |_=>exact inS h
def vr:List AO→Option (List AO)
 |[]=>some []
 |a::l=>match xS a,vr l with
  |some a',some l'=>some (a'::l')
  |_,_=>none
theorem qG:∀{l l':List AO},vr l=some l'→l=l'
 |[],l',h=>inS h
 |a::l,l',h=>by
  dsimp only[vr] at h
  split at h
  ·rename_i ha hl;rw[vu ha,qG hl];exact inS h
  ·cases h
theorem St{st':List AO}(h:vr st=some st')(k:WL P e ops rest env st' R):WL P e ops rest env st R:=WL.st (qG h) k
end
def ObX(P:Program)(e:En)(l:List Oper)(rs:List AV)(base:Env)(s s':List AO→Prop)(k:Nat)(o:Oper)(pk bk:List Nat):Prop:=
 ∀(F:Env)(st:List AO),s st→WL P e l.toArray [o] (cZ l rs base pk bk++F) st λenv' st'=>s' st'∧∃pre,env'=pre++(cZ l rs base pk bk++F)∧
  (∀t x,pre.get t=some x→o.dst=some t)∧∀d r,o.dst=some d→rs[k]? =some r→pre.get d=some r
def wV(P:Program)(e:En)(l:List Oper)(rs:List AV)(base:Env)(sts:List Bool→List AO→Prop)(es:List Nat)(k:Nat)(o:Oper)(pk bk:List Nat):List (List Bool)→Prop
 |[]=>True
 |c::cs=>ObX P e l rs base (sts c) (sts (upB k es c)) k o pk bk∧wV P e l rs base sts es k o pk bk cs
def sy(P:Program)(e:En)(l:List Oper)(rs:List AV)(base:Env)(sts:List Bool→List AO→Prop)(es:List Nat):Nat→List Oper→List (List Nat×List Nat×List (List Bool))→Prop
 |k,o::ol,p::ps=>wV P e l rs base sts es k o p.1 p.2.1 p.2.2∧sy P e l rs base sts es (k+1) ol ps
 |_,_,_=>True
theorem po{P e l rs base sts es k o pk bk}:∀{cs:List (List Bool)},wV P e l rs base sts es k o pk bk cs→∀c∈cs,ObX P e l rs base (sts c) (sts (upB k es c)) k o pk bk
 |c::cs,h,c',hc=>by
  rcases List.mem_cons.1 hc with rfl|hc
  ·exact h.1
  ·exact po h.2 c' hc
theorem pn{P e l rs base sts es}:∀{ol:List Oper}{ps:List (List Nat×List Nat×List (List Bool))}{k j:Nat}{o:Oper}{p:List Nat×List Nat×List (List Bool)},sy P e l rs base sts es k ol ps→ol[j]? =some o→ps[j]? =some p→wV P e l rs base sts es (k+j) o p.1 p.2.1 p.2.2
 |o0::ol,p0::ps,k,0,o,p,h,h1,h2=>by
  simp only[List.getElem?_cons_zero,ak] at h1 h2
  subst h1;subst h2;exact h.1
 |o0::ol,p0::ps,k,j+1,o,p,h,h1,h2=>by
  have:=pn h.2 (by simpa using h1:ol[j]? =some o) (by simpa using h2:ps[j]? =some p)
  rw[show k+(j+1)=k+1+j by omega];exact this
 |[],_,_,_,_,_,_,h1,_=>by simp at h1
 |_::_,[],_,_,_,_,_,_,h2=>by simp at h2
section
variable{P:Program}{e:En}{l:List Oper}{rs:List AV}{base:Env}{sts:List Bool→List AO→Prop}{es:List Nat}
def AtX(e:En)(l:List Oper)(rs:List AV)(base:Env)(sts:List Bool→List AO→Prop)(es:List Nat)(L:Nat→Bool)(a:Act)(w:World):Prop:=
 ∃m φ st,sts (es.map L) st∧Inv e m φ (FL base L (bi l rs 0)) st a w
theorem sw{Q':Exit→Act→World→Prop}(hnf:bn l=true){tc:List (List Nat)}{plan:List (List Nat×List Nat×List (List Bool))}(hok:jP l tc es plan=true)(hrs:rs.length=l.length)(hobs:sy P e l rs base sts es 0 l plan)
  {L L':Nat→Bool}{k:Nat}{o:Oper}(ho:l[k]? =some o)(hd:qa l L)(hLn:∀y,L y=true→y<l.length)(hk:L k=false)(hpre:∀e∈o.after,Region.binds .any e=true→L e.on=true)
  (hL:∀j,j≠k→L' j=L j)(hk':L' k=true){a:Act}{w:World}(hat:AtX e l rs base sts es L a w):
  wpOpIn (EF e.rd) 0 P l.toArray Q' k (λa' w'=>AtX e l rs base sts es L' a' w') a w:=by
 obtain⟨m,φ,st,hst,hi⟩:=hat
 simp only[jP,Bool.and_eq_true] at hok
 obtain⟨⟨⟨htc,hnd⟩,hpl⟩,hall⟩:=hok
 have hkl:k<l.length:=(giS.1 ho).1
 have h1:=List.all_eq_true.1 hall k (List.mem_range.2 hkl)
 cases hp:plan[k]? with
 |none=>simp[hp] at h1
 |some p=>
  obtain⟨pk,bk,cs⟩:=p
  simp only[hp,Bool.and_eq_true] at h1
  obtain⟨⟨hpk,hbk⟩,hcs⟩:=h1
  have hobk:=pn hobs ho hp
  rw[Nat.zero_add] at hobk
  have htck:=fj htc hd k o ho hpre
  have htcl:∀(y:Nat),L y=true→k∉tc.getD y []:=λy hy hm=>by
   have hyl:=hLn y hy
   have hoy:l[y]? =some l[y]:=geG hyl
   have:=fj htc hd y _ hoy (λe' he' hb=>hd y _ hoy hy e' he' hb) k hm
   rw[hk] at this;cases this
  -- the store is one of those that the plan names
  have hc:es.map L∈cs:=by
   have h2:=List.all_eq_true.1 hcs (es.map L) (oy _ (List.length_map _))
   simp only[Bool.or_eq_true] at h2
   rcases h2 with h2|h2
   ·simpa using h2
   ·obtain⟨⟨y,b⟩,hy,h3⟩:=List.any_eq_true.1 h2
    obtain⟨hye,rfl⟩:=eU hy
    simp only[Bool.or_eq_true,Bool.and_eq_true,Bool.not_eq_true'] at h3
    rcases h3 with(⟨hL,h3|h3⟩|⟨hL,h3⟩)|⟨hL,h3⟩
    ·rw[nbE h3,hk] at hL;cases hL
    ·exact absurd (by simpa using h3) (htcl y hL)
    ·have:=htck y (by simpa using h3)
     rw[hL] at this;cases this
    ·obtain⟨⟨z,b⟩,hz,h4⟩:=List.any_eq_true.1 h3
     obtain⟨_,rfl⟩:=eU hz
     simp only[Bool.and_eq_true,Bool.not_eq_true'] at h4
     have hyl:=hLn y hL
     have hoy:l[y]? =some l[y]:=geG hyl
     have:=fj htc hd y _ hoy (λe' he' hb=>hd y _ hoy hL e' he' hb) z (by simpa using h4.2)
     rw[h4.1] at this;cases this
  have hob:=po hobk _ hc
  have hcnt:es.map L'=upB k es (es.map L):=by
   rw[qp]
   apply List.map_congr_left
   intro y _
   by_cases hyk:y=k
   ·subst hyk;simp[hk']
   ·rw[hL y hyk]
    have:Nat.beq y k=false:=by
     cases hb:Nat.beq y k with
     |false=>rfl
     |true=>exact absurd (nbE hb) hyk
    rw[this,Bool.or_false]
  have hreg:=gJ (rs:=rs) (k:=0) (dX hnd)
  have regk:∀(j t:Nat)(x:AV),(j,t,x)∈bi l rs 0→∃o',l[j]? =some o'∧o'.dst=some t∧rs[j]? =some x:=λj t x hm=>by
   obtain⟨_,o',h1,h2,h3⟩:=jD hm
   exact⟨o',by simpa using h1,h2,by simpa using h3⟩
  -- what the operation needs is there
  have hek:∀t x,(cZ l rs base pk bk).get t=some x→(FL base L (bi l rs 0)).get t=some x:=λt x hx=>by
   rcases kC hx with⟨j,hj,hm⟩|⟨hm,hb⟩
   ·exact l6 hreg.1 hm (htck j (by simpa using List.all_eq_true.1 hpk j hj))
   ·rw[nN]
    ·exact hb
    ·intro j r hjm
     obtain⟨o',h2,h3,_⟩:=regk j t r hjm
     have h4:=List.all_eq_true.1 (List.all_eq_true.1 hbk t hm) j (List.mem_range.2 (giS.1 h2).1)
     simp only[h2,h3,beq_self_eq_true,Bool.not_true,Bool.false_or,Bool.or_eq_true] at h4
     rcases h4 with h4|h4
     ·rw[nbE h4];exact hk
     ·cases hLj:L j with
      |false=>rfl
      |true=>exact absurd (by simpa using h4) (htcl j hLj)
  have hsub:Sub (cZ l rs base pk bk++FL base L (bi l rs 0)) (FL base L (bi l rs 0)):=λt x hx=>by
   rw[Env.get_append] at hx
   cases hg:(cZ l rs base pk bk).get t with
   |some y=>rw[hg] at hx;simp only[ak] at hx;subst hx;exact⟨y,hek t y hg,Le.refl y⟩
   |none=>rw[hg] at hx;exact⟨x,hx,Le.refl x⟩
  refine kM hnf ho (hob (FL base L (bi l rs 0)) st hst) (hi.sub hsub) ?_
  rintro a' w' env' st' m' φ' ⟨hst',pre,rfl,hp1,hp2⟩ hi'
  refine⟨m',φ',st',by rw[hcnt];exact hst',?_⟩
  refine hi'.sub (λt x hx=>?_)
  rw[Env.get_append,Env.get_append]
  cases hpt:pre.get t with
  |some y=>
   have hdt:=hp1 t y hpt
   cases hrk:rs[k]? with
   |none=>exact absurd (List.getElem?_eq_none_iff.1 hrk) oM
   |some r=>
    have h2:=hp2 t r hdt hrk
    rw[hpt] at h2
    simp only[ak] at h2
    subst h2
    have h3:(FL base L' (bi l rs 0)).get t=some y:=l6 hreg.1 (by simpa using gK (k:=0) ho hdt hrk) hk'
    rw[h3] at hx
    simp only[ak] at hx
    subst hx
    exact⟨y,rfl,Le.refl y⟩
  |none=>
   have h3:(FL base L' (bi l rs 0)).get t=(FL base L (bi l rs 0)).get t:=nM hL (λr hr=>by
    obtain⟨o',h2,h3,h4⟩:=regk k t r hr
    rw[ho] at h2
    simp only[ak] at h2
    subst h2
    have:=hp2 t r h3 h4
    rw[hpt] at this;cases this)
   rw[h3] at hx
   cases hg:(cZ l rs base pk bk).get t with
   |some y=>
    have:=hek t y hg
    rw[hx] at this
    simp only[ak] at this
    subst this
    exact⟨x,rfl,Le.refl x⟩
   |none=>exact⟨x,hx,Le.refl x⟩
theorem uN(hnf:bn l=true){tc:List (List Nat)}{plan:List (List Nat×List Nat×List (List Bool))}{Q:Exit→Act→World→Prop}(hok:jP l tc es plan=true)(hrs:rs.length=l.length)(hobs:sy P e l rs base sts es 0 l plan)
  (hQ:∀a w,AtX e l rs base sts es (λk=>Nat.blt k l.length) a w→Q .normal a w):
  ∀(f:Nat)(listed:Array Bool)(a:Act)(w:World),listed.size=l.length→qa l (Lof listed)→listed.toList.count false≤f→AtX e l rs base sts es (Lof listed) a w→wpAnyIn (EF e.rd) 0 P .any l.toArray Q f listed a w:=by
 have htc:ta l tc=true:=by simp only[jP,Bool.and_eq_true] at hok;exact hok.1.1.1
 -- what is ready
 have rdy:∀(listed:Array Bool)(i:Nat),listed.size=l.length→i∈Region.ready .any l.toArray listed→∃o,l[i]? =some o∧Lof listed i=false∧listed[i]? =some false∧∀e∈o.after,Region.binds .any e=true→Lof listed e.on=true:=by
  intro listed i hsz hi
  obtain⟨h0,o,ho,hall⟩:=mem_ready.1 hi
  have hil:i<listed.size:=by
   rcases Nat.lt_or_ge i listed.size with h|h
   ·exact h
   ·simp[Array.getD,Nat.not_lt.2 h] at h0
  have h1:listed[i]? =some false:=by
   rw[Array.getElem?_eq_getElem hil]
   simp[Array.getD,hil] at h0
   rw[h0]
  exact⟨o,by simpa using ho,by simp[Lof,Array.getD_eq_getD_getElem?,h1],h1,λe he hb=>hall e he hb⟩
 -- where nothing is ready, all is listed
 have full:∀(listed:Array Bool),listed.size=l.length→Region.ready .any l.toArray listed=[]→Lof listed=λk=>Nat.blt k l.length:=by
  intro listed hsz hr
  have key:∀k,k<l.length→Lof listed k=true:=by
   intro k
   induction k using Nat.strongRecOn with
   |_ k ih=>
    intro hk
    cases hLk:Lof listed k with
    |true=>rfl
    |false=>
     exfalso
     have hok':l[k]? =some l[k]:=geG hk
     have:k∈Region.ready .any l.toArray listed:=by
      refine mem_ready.2 ⟨?_,l[k],by simp[hk],λe he hb=>?_⟩
      ·have hks:k<listed.size:=oM
       simp only[Lof,Array.getD,hks,dif_pos] at hLk⊢
       exact hLk
      ·have h1:=List.all_eq_true.1 htc k (List.mem_range.2 hk)
       simp only[hok',Bool.and_eq_true] at h1
       have h2:=List.all_eq_true.1 h1.1 e (Array.mem_toList_iff.2 he)
       simp only[hb,Bool.not_true,Bool.false_or] at h2
       have hlt:e.on<k:=by simpa[Nat.blt_eq] using h2
       exact ih e.on hlt oM
     rw[hr] at this;cases this
  funext k
  rcases Nat.lt_or_ge k l.length with h|h
  ·rw[key k h];simp[Nat.blt_eq,h]
  ·have:Lof listed k=false:=by simp[Lof,Array.getD,Nat.not_lt.2 (by omega:listed.size≤k)]
   rw[this]
   cases hb:Nat.blt k l.length with
   |false=>rfl
   |true=>
     have:k<l.length:=by simpa[Nat.blt_eq] using hb
     omega
 intro f
 induction f with
 |zero=>
  intro listed a w hsz hdn hcn hat
  have hr:Region.ready .any l.toArray listed=[]:=by
   cases hr:Region.ready .any l.toArray listed with
   |nil=>rfl
   |cons i r=>
    obtain⟨o,_,_,h1,_⟩:=rdy listed i hsz (by rw[hr];exact List.mem_cons_self)
    have:false∈listed.toList:=List.mem_of_getElem? (i:=i) (by simpa using h1)
    have:=List.count_pos_iff.2 this
    omega
  exact⟨hr,hQ a w (full listed hsz hr▸hat)⟩
 |succ f ih=>
  intro listed a w hsz hdn hcn hat
  refine⟨λhr=>hQ a w (full listed hsz hr▸hat),λi hi=>?_⟩
  obtain⟨o,ho,hLi,hli,hpre⟩:=rdy listed i hsz hi
  have hil:i<listed.size:=(Array.getElem?_eq_some_iff.1 hli).1
  have hother:∀j,j≠i→Lof (listed.setIfInBounds i true) j=Lof listed j:=λj hj=>by
   simp only[Lof,Array.getD_eq_getD_getElem?,Array.getElem?_setIfInBounds_ne (Ne.symm hj)]
  have hself:Lof (listed.setIfInBounds i true) i=true:=by simp[Lof,Array.getD_eq_getD_getElem?,hil]
  have hstep:=sw (Q':=Q) hnf (L':=Lof (listed.setIfInBounds i true)) hok hrs hobs ho hdn (λy hy=>by
   rcases Nat.lt_or_ge y l.length with h|h
   ·exact h
   ·simp[Lof,Array.getD,Nat.not_lt.2 (by omega:listed.size≤y)] at hy) hLi hpre hother hself hat
  refine wpOpIn_mono (λa' w' hat'=>ih _ a' w' (by simpa using hsz) ?_ ?_ hat') hstep
  ·intro k ok hk hLk e he hb
   by_cases hki:k=i
   ·subst hki
    rw[ho] at hk
    simp only[ak] at hk
    subst hk
    have:=hpre e he hb
    by_cases hei:e.on=k
    ·rw[hei];exact hself
    ·rw[hother _ hei];exact this
   ·rw[hother k hki] at hLk
    have:=hdn k ok hk hLk e he hb
    by_cases hei:e.on=i
    ·rw[hei];exact hself
    ·rw[hother _ hei];exact this
  ·have:=jM (l:=listed.toList) (i:=i) (by simpa using hli)
   rw[Array.toList_setIfInBounds]
   omega
theorem kS{k:Ko}{env:Env}{st:List AO}{id:Nat}(rs:List AV)(tc:List (List Nat))(es:List Nat){ι:Type}(x0:ι)(sts:ι→List Bool→List AO)(plan:List (List Nat×List Nat×List (List Bool)))(hm:P.follows .mixedOrders=true)
  (hok:jP l tc es plan=true)(hrs:Nat.beq rs.length l.length=true)(hes:es.all (λy=>Nat.blt y l.length)=true)(hst:sts x0 (List.replicate es.length false)=st)(hobs:sy P e l rs env (λc s=>∃x,s=sts x c) es 0 l plan)
  (h:∀x,WE P e .normal k (FL env (λk=>Nat.blt k l.length) (bi l rs 0)) (sts x (List.replicate es.length true)))(hnf:bn l=true:=by kernel_rfl):WC P e (.region id l.toArray true) k env st:=λm φ a w hi=>by
 have hQ:∀a' w',AtX e l rs env (λc s=>∃x,s=sts x c) es (λk=>Nat.blt k l.length) a' w'→k.den P e .normal a' w':=λa' w' ⟨m',φ',st',⟨x,hx⟩,hi'⟩=>by
  rw[oA λy hy=>List.all_eq_true.1 hes y hy] at hx
  subst hx
  exact h x m' φ' a' w' hi'
 have hz:∀j,Lof (Array.replicate l.toArray.size false) j=false:=λj=>by simp[Lof,Array.getD]
 have hdn:qa l (Lof (Array.replicate l.toArray.size false)):=λk o _ hL=>by rw[hz] at hL;cases hL
 have hat:AtX e l rs env (λc s=>∃x,s=sts x c) es (Lof (Array.replicate l.toArray.size false)) a { w with drawn:=w.drawn+1 }:=by
  have hc:es.map (Lof (Array.replicate l.toArray.size false))=List.replicate es.length false:=mC hz
  have hf:∀reg:List (Nat×Nat×AV),FL env (Lof (Array.replicate l.toArray.size false)) reg=env:=by
   intro reg
   induction reg with
   |nil=>rfl
   |cons p reg ih=>obtain⟨j,d,r⟩:=p;simp only[FL,hz,cdF];exact ih
  refine⟨m,φ,st,⟨x0,by rw[hc,hst]⟩,?_⟩
  rw[hf]
  exact hi.below ((Below.refl _ _).drew) (hi.env.mono (Pre.refl m) (Fz.refl φ w)) hi.sz rfl
 exact wpIn_region_any hm (uN hnf (sts:=λc s=>∃x,s=sts x c) (base:=env) hok (nbE hrs) hobs hQ _ _ a _ sM hdn sM hat)
end
theorem Ox{P:Program}{e:En}{l:List Oper}{rs:List AV}{base:Env}{ι:Type}{sts:ι→List Bool→List AO}{c c':List Bool}{k:Nat}{o:Oper}{pk bk:List Nat}
  (h:∀x,ObT P e l rs base (sts x c) (sts x c') k o pk bk):ObX P e l rs base (λs=>∃x,s=sts x c) (λs=>∃x,s=sts x c') k o pk bk:=λF st ⟨x,hx⟩=>by
 subst hx
 intro m φ a w hi
 refine cQ (P:=P) (l2:=[]) (λy a' w' hy=>⟨hy.1,?_⟩) [o] a w (h x F m φ a w hi)
 obtain⟨_,env',st',m',φ',⟨h1,h2⟩,h3⟩:=hy
 exact⟨rfl,env',st',m',φ',⟨⟨x,h1⟩,h2⟩,h3⟩
theorem Oy{P:Program}{e:En}{l:List Oper}{rs:List AV}{base:Env}{ι:Type}{sts:ι→List Bool→List AO}{c:List Bool}{s':List AO→Prop}{k:Nat}{o:Oper}{pk bk:List Nat}
  (h:∀x (F:Env),WL P e l.toArray [o] (cZ l rs base pk bk++F) (sts x c) λenv' st'=>s' st'∧∃pre,env'=pre++(cZ l rs base pk bk++F)∧(∀t x,pre.get t=some x→o.dst=some t)∧∀d r,o.dst=some d→rs[k]? =some r→pre.get d=some r):ObX P e l rs base (λs=>∃x,s=sts x c) s' k o pk bk:=λF st ⟨x,hx⟩=>by
 subst hx
 exact h x F
theorem Zx{P:Program}{e:En}{rs:List AV}{ι:Type}{sts:ι→List AO}{ops:Array Oper}{env:Env}{st':List AO}{o:Oper}{d:Nat}{r:AV}{k:Nat}(x:ι)(hd:o.dst=some d)(hr:rs[k]? =some r)(hst:st'=sts x):
  WL P e ops [] ((d,r)::env) st' (λenv' st''=>(∃x,st''=sts x)∧∃pre,env'=pre++env∧(∀t x,pre.get t=some x→o.dst=some t)∧∀d' r',o.dst=some d'→rs[k]? =some r'→pre.get d'=some r'):=
 WL.nil ⟨⟨x,hst⟩,[(d,r)],rfl,λt x hx=>by
  rw[aJ] at hx
  split at hx
  ·rename_i h;rw[h];exact hd
  ·simp[Env.get] at hx,λd' r' hd' hr'=>by
  rw[hd] at hd';rw[hr] at hr'
  simp only[ak] at hd' hr'
  subst hd';subst hr'
  simp[aJ]⟩
theorem O3{P:Program}{e:En}[T:Tys P]{l:List Oper}{rs:List AV}{base:Env}{s s':List AO}{k d:Nat}{o:Oper}{pk bk:List Nat}{r:AV}(hd:o.dst=some d)(h:∀F:Env,iK T.t e.n l.toArray s (cZ l rs base pk bk++F) o=some ((d,r)::(cZ l rs base pk bk++F)))(hr:rs[k]? =some r)(hu:s'=s):ObT P e l rs base s s' k o pk bk:=
 λF=>gg T.h (h F) (ft hd hr (by rw[hu]))
def bx{ι:Type}(S:ι→List AO)(st:List AO)(x:ι)(c:List Bool):List AO:=bif c.headD false then S x else st
theorem R1x{P:Program}{e:En}{l:List Oper}{κ:Ko}{env:Env}{st:List AO}{id:Nat}(rs:List AV)(e1:Nat){ι:Type}(x0:ι)(S:ι→List AO)(plan:List (List Nat×List Nat×List (List Bool)))(hm:P.follows .mixedOrders=true)
  (hok:jP l (tcF l) [e1] plan=true)(hrs:Nat.beq rs.length l.length=true)(hes:[e1].all (λy=>Nat.blt y l.length)=true)
  (hobs:sy P e l rs env (λc s=>∃x,s=bx S st x c) [e1] 0 l plan)(h:∀x,WE P e .normal κ (FL env (λk=>Nat.blt k l.length) (bi l rs 0)) (S x))(hnf:bn l=true:=by kernel_rfl):WC P e (.region id l.toArray true) κ env st:=
 kS rs (tcF l) [e1] x0 (bx S st) plan hm hok hrs hes rfl hobs h hnf
theorem Y1{a0 b:Prop}(k:b)(ha0:a0:=by exact O1 rfl (λ_=>rfl) rfl rfl):a0∧b:=⟨ha0,k⟩
theorem Y2{a0 a1 b:Prop}(k:b)(ha0:a0:=by exact O1 rfl (λ_=>rfl) rfl rfl)(ha1:a1:=by exact O1 rfl (λ_=>rfl) rfl rfl):a0∧a1∧b:=⟨ha0,ha1,k⟩
theorem Y3{a0 a1 a2 b:Prop}(k:b)(ha0:a0:=by exact O1 rfl (λ_=>rfl) rfl rfl)(ha1:a1:=by exact O1 rfl (λ_=>rfl) rfl rfl)(ha2:a2:=by exact O1 rfl (λ_=>rfl) rfl rfl):a0∧a1∧a2∧b:=⟨ha0,ha1,ha2,k⟩
theorem Y4{a0 a1 a2 a3 b:Prop}(k:b)(ha0:a0:=by exact O1 rfl (λ_=>rfl) rfl rfl)(ha1:a1:=by exact O1 rfl (λ_=>rfl) rfl rfl)(ha2:a2:=by exact O1 rfl (λ_=>rfl) rfl rfl)(ha3:a3:=by exact O1 rfl (λ_=>rfl) rfl rfl):a0∧a1∧a2∧a3∧b:=⟨ha0,ha1,ha2,ha3,k⟩
theorem Y5{a0 a1 a2 a3 a4 b:Prop}(k:b)(ha0:a0:=by exact O1 rfl (λ_=>rfl) rfl rfl)(ha1:a1:=by exact O1 rfl (λ_=>rfl) rfl rfl)(ha2:a2:=by exact O1 rfl (λ_=>rfl) rfl rfl)(ha3:a3:=by exact O1 rfl (λ_=>rfl) rfl rfl)(ha4:a4:=by exact O1 rfl (λ_=>rfl) rfl rfl):a0∧a1∧a2∧a3∧a4∧b:=⟨ha0,ha1,ha2,ha3,ha4,k⟩
theorem Y7{a0 a1 a2 a3 a4 a5 a6 b:Prop}(k:b)(ha0:a0:=by exact O1 rfl (λ_=>rfl) rfl rfl)(ha1:a1:=by exact O1 rfl (λ_=>rfl) rfl rfl)(ha2:a2:=by exact O1 rfl (λ_=>rfl) rfl rfl)(ha3:a3:=by exact O1 rfl (λ_=>rfl) rfl rfl)(ha4:a4:=by exact O1 rfl (λ_=>rfl) rfl rfl)(ha5:a5:=by exact O1 rfl (λ_=>rfl) rfl rfl)(ha6:a6:=by exact O1 rfl (λ_=>rfl) rfl rfl):a0∧a1∧a2∧a3∧a4∧a5∧a6∧b:=⟨ha0,ha1,ha2,ha3,ha4,ha5,ha6,k⟩
theorem Y8{a0 a1 a2 a3 a4 a5 a6 a7 b:Prop}(k:b)(ha0:a0:=by exact O1 rfl (λ_=>rfl) rfl rfl)(ha1:a1:=by exact O1 rfl (λ_=>rfl) rfl rfl)(ha2:a2:=by exact O1 rfl (λ_=>rfl) rfl rfl)(ha3:a3:=by exact O1 rfl (λ_=>rfl) rfl rfl)(ha4:a4:=by exact O1 rfl (λ_=>rfl) rfl rfl)(ha5:a5:=by exact O1 rfl (λ_=>rfl) rfl rfl)(ha6:a6:=by exact O1 rfl (λ_=>rfl) rfl rfl)(ha7:a7:=by exact O1 rfl (λ_=>rfl) rfl rfl):a0∧a1∧a2∧a3∧a4∧a5∧a6∧a7∧b:=⟨ha0,ha1,ha2,ha3,ha4,ha5,ha6,ha7,k⟩
theorem X2a{a0 a1 b:Prop}(k:b)(h0:a0:=by exact O2 rfl (λ_=>rfl) rfl rfl)(h1:a1:=by exact O2 rfl (λ_=>rfl) rfl rfl):(a0∧a1∧True)∧b:=⟨⟨h0,h1,trivial⟩,k⟩
theorem X2b{a00 a01 a10 a11 b:Prop}(k:b)(ha00:a00:=by exact O2 rfl (λ_=>rfl) rfl rfl)(ha01:a01:=by exact O2 rfl (λ_=>rfl) rfl rfl)(ha10:a10:=by exact O2 rfl (λ_=>rfl) rfl rfl)(ha11:a11:=by exact O2 rfl (λ_=>rfl) rfl rfl):(a00∧a01∧True)∧(a10∧a11∧True)∧b:=⟨⟨ha00,ha01,trivial⟩,⟨ha10,ha11,trivial⟩,k⟩
theorem rc{P:Program}{e:En}[T:Tys P]{l:List Oper}{rs:List AV}{base:Env}{sts:Nat→List AO}{k d c c':Nat}{o:Oper}{pk bk:List Nat}{a b:Bool}(hb:a=b)(h:∀F:Env,iN T.t e.n l.toArray (sts c) 1 [o] (cZ l rs base pk bk++F)=some ([],(d, .d (.v (.bool a)))::(cZ l rs base pk bk++F)):=by exact λ_=>rfl)(hd:o.dst=some d:=by exact rfl)(hr:rs[k]? =some (.d (.v (.bool b))):=by exact rfl)(hu:sts c=sts c':=by exact rfl):Ob P e l rs base sts k o pk bk c c':=
 λF=>Rl 1 (h F) (WL.cast d (by simp[aJ]) (yR (Cb hb)) (uQ hd hr hu))
theorem zo{a b:Prop}(h:a)(k:b):(a∧True)∧b:=⟨⟨h,trivial⟩,k⟩
abbrev p00:List Nat×List Nat×List Nat:=([],[],[0])
abbrev p01(y0:Nat):List Nat×List Nat×List Nat:=([],[y0],[0])
abbrev q01(y0 z:Nat):List Nat×List Nat×List Nat:=([],[y0],[z])
abbrev p10(x0:Nat):List Nat×List Nat×List Nat:=([x0],[],[0])
abbrev q10(x0 z:Nat):List Nat×List Nat×List Nat:=([x0],[],[z])
abbrev p11(x0 y0:Nat):List Nat×List Nat×List Nat:=([x0],[y0],[0])
abbrev p20(x0 x1:Nat):List Nat×List Nat×List Nat:=([x0,x1],[],[0])
abbrev q20(x0 x1 z:Nat):List Nat×List Nat×List Nat:=([x0,x1],[],[z])
abbrev p30(x0 x1 x2:Nat):List Nat×List Nat×List Nat:=([x0,x1,x2],[],[0])
abbrev p33(x0 x1 x2 y0 y1 y2:Nat):List Nat×List Nat×List Nat:=([x0,x1,x2],[y0,y1,y2],[0])
abbrev u01(y0:Nat):List Nat×List Nat×List Nat:=([],[y0],[0,1])
abbrev v01(y0:Nat):List Nat×List Nat×List Nat:=([],[y0],[1,2])
abbrev u10(x0:Nat):List Nat×List Nat×List Nat:=([x0],[],[0,1])
abbrev v10(x0:Nat):List Nat×List Nat×List Nat:=([x0],[],[1,2])
theorem Z6{α β γ δ ε ζ:Type}{a:α}{b:β}{c:γ}{d:δ}{e:ε}{f:ζ}:a=a∧b=b∧c=c∧d=d∧e=e∧f=f:=⟨rfl,rfl,rfl,rfl,rfl,rfl⟩
theorem Z2{α β:Type}{a:α}{b:β}:a=a∧b=b:=⟨rfl,rfl⟩
theorem Z4{α β γ δ:Type}{a:α}{b:β}{c:γ}{d:δ}:a=a∧b=b∧c=c∧d=d:=⟨rfl,rfl,rfl,rfl⟩
theorem Z3{α β γ:Type}{a:α}{b:β}{c:γ}:a=a∧b=b∧c=c:=⟨rfl,rfl,rfl⟩
theorem wF{P:Program}{e:En}{ops:Array Oper}{rest:List Oper}{env:Env}{st:List AO}{R:Env→List AO→Prop}{o:Oper}{d:Nat}{f:FuncId}{c:Call}{x:Operand}{first caps asz:List AV}{ds:List D}{y:D}(a:o.op= .call c∧c.callee= .value x∧opv env x=some (.fn (.func f) first caps)∧bO env c.args.toList=some asz)(hc:Pu P f ds y)(hl:Les (first++asz++caps) (ds.map .d))
  (b:o.guard=none∧o.dst=some d∧Nat.ble (d+1) e.n=true)(h:WL P e ops rest ((d, .d y)::env) st R):WL P e ops (o::rest) env st R:=WL.fn a.1 a.2.1 a.2.2.1 a.2.2.2 hc hl (Wt.none b.1) b.2.1 b.2.2 h
theorem sS{P:Program}{e:En}{ops:Array Oper}{rest:List Oper}{env:Env}{st:List AO}{R:Env→List AO→Prop}{T:TypeId}{x y:Operand}{id off n:Nat}{T':TypeId}{cs:List AV}{r:AV}{rs:List AV}{ty:TypeId}{pos:String}{after:Array Edge}(a:opv env x=some (.pt id off)∧st[id]? =some (.row T' cs)∧opv env y=some r∧r.okc=true∧r.cells=rs∧rs.all AV.ok1=true)
  (hn:bc P T=some n)(b:rs.length=n∧Nat.ble (off+n) cs.length=true)(h:WL P e ops rest env (st.set id (.row T' (cs.take off++rs++cs.drop (off+n)))) R):WL P e ops (⟨none, .store T x y,ty,pos,after,none⟩::rest) env st R:=
 WL.s0 (wD a.1 a.2.1 a.2.2.1 a.2.2.2.1 a.2.2.2.2.1 a.2.2.2.2.2 hn b.1 b.2) (Wt.none rfl) rfl h
section
variable{P:Program}{e:En}{ops:Array Oper}{l:List Oper}{st:List AO}{env env0 env1:Env}{R:Env→List AO→Prop}
theorem Nn{t d:Nat}{b z:Bool}(n:Nat)(h1:env1=env1.take n++((t, .d (.v (.bool b)))::env0):=by exact rfl)(h2:gA (env1.take n) env0=true:=by exact rfl)(h3:Env.get (env1.take n) d=some (.d (.v (.bool z))):=by exact rfl):WL P e ops [] env1 st (λenv' st'=>st'=st∧GrpJ env0 t b d z env'):=WL.nil ⟨rfl,env1.take n,h1,h2,h3⟩
theorem Rn [T:Tys P]{t d:Nat}{b z:Bool}(k n:Nat)(h:iN T.t e.n ops st k l env=some ([],env1):=by exact rfl)(h1:env1=env1.take n++((t, .d (.v (.bool b)))::env0):=by exact rfl)(h2:gA (env1.take n) env0=true:=by exact rfl)(h3:Env.get (env1.take n) d=some (.d (.v (.bool z))):=by exact rfl):WL P e ops l env st (λenv' st'=>st'=st∧GrpJ env0 t b d z env'):=Rl k h (Nn n h1 h2 h3)
theorem On [T:Tys P]{t d:Nat}{b z z':Bool}(k n:Nat)(hz:some z'=some z)(h:iN T.t e.n ops st k l env=some ([],env1):=by exact rfl)(h1:env1=env1.take n++((t, .d (.v (.bool b)))::env0):=by exact rfl)(h2:gA (env1.take n) env0=true:=by exact rfl)(h3:Env.get (env1.take n) d=some (.d (.v (.bool z'))):=by exact rfl):WL P e ops l env st (λenv' st'=>st'=st∧GrpJ env0 t b d z env'):=Rn k n h h1 h2 (h3.trans (by rw[inS hz]))
theorem AG [T:Tys P]{env2:Env}(k t d a n:Nat){x y:Bool}(hr:WL P e ops (l.drop k) ((d, .d (.v (.bool (x&&y))))::env) st R)(hx:env.get t=some (.d (.v (.bool x))):=by exact rfl)(h:iN T.t e.n ops st a (l.take k) ((t, .d (.v (.bool true)))::env)=some ([],env1):=by exact rfl)(h1:env1=env1.take n++((t, .d (.v (.bool true)))::env):=by exact rfl)(h2:gA (env1.take n) env=true:=by exact rfl)(h3:Env.get (env1.take n) d=some (.d (.v (.bool y))):=by exact rfl)
  (g:iN T.t e.n ops st a (l.take k) ((t, .d (.v (.bool false)))::env)=some ([],env2):=by exact rfl)(g1:env2=env2.take n++((t, .d (.v (.bool false)))::env):=by exact rfl)(g2:gA (env2.take n) env=true:=by exact rfl)(g3:Env.get (env2.take n) d=some (.d (.v (.bool false))):=by exact rfl):WL P e ops l env st R:=WL.and k hx (λ_=>Rn a n h h1 h2 h3) (Rn a n g g1 g2 g3) hr
theorem OG [T:Tys P]{env2:Env}(k t d a n:Nat){x y:Bool}(hr:WL P e ops (l.drop k) ((d, .d (.v (.bool (x||y))))::env) st R)(hx:env.get t=some (.d (.v (.bool x))):=by exact rfl)(h:iN T.t e.n ops st a (l.take k) ((t, .d (.v (.bool false)))::env)=some ([],env1):=by exact rfl)(h1:env1=env1.take n++((t, .d (.v (.bool false)))::env):=by exact rfl)(h2:gA (env1.take n) env=true:=by exact rfl)(h3:Env.get (env1.take n) d=some (.d (.v (.bool y))):=by exact rfl)
  (g:iN T.t e.n ops st a (l.take k) ((t, .d (.v (.bool true)))::env)=some ([],env2):=by exact rfl)(g1:env2=env2.take n++((t, .d (.v (.bool true)))::env):=by exact rfl)(g2:gA (env2.take n) env=true:=by exact rfl)(g3:Env.get (env2.take n) d=some (.d (.v (.bool true))):=by exact rfl):WL P e ops l env st R:=WL.or k hx (λ_=>Rn a n h h1 h2 h3) (Rn a n g g1 g2 g3) hr
theorem Gg(k t d:Nat)(z:Bool){x:Bool}{β:Type}{a b w:β}(hb:(bif x then a else b)=w)(h1:a=w→WL P e ops (l.take k) ((t, .d (.v (.bool true)))::env) st λenv' st'=>st'=st∧GrpJ env t true d z env')(h0:b=w→WL P e ops (l.take k) ((t, .d (.v (.bool false)))::env) st λenv' st'=>st'=st∧GrpJ env t false d z env')
  (hr:WL P e ops (l.drop k) ((d, .d (.v (.bool z)))::env) st R)(hx:env.get t=some (.d (.v (.bool x))):=by exact rfl):WL P e ops l env st R:=WL.grp k hx (λhh=>h1 (eD hb hh)) (λhh=>h0 (eE hb hh)) hr
end
theorem fI{P:Program}{f:FuncId}{fn:Func}{c:Code}{asz:List D}{x:D}{n:Nat}(hf:P.funcs[f]? =some fn)(h:∀φ w,WC P ⟨[],φ,w,n,none,none⟩ c (.fin fn (λr' st'=>r'= .d x∧st'=[])) (fx 0 (asz.map .d)) [])(h1:(fn.name== "runtime.NumGoroutine")=false:=by kernel_rfl)
  (h2:fn.body=some c:=by exact rfl)(h3:fn.ntmps=n:=by exact rfl)(h4:Nat.ble (asz.map AV.d).length n=true:=by exact rfl):Pu P f asz x:=ui hf h1 h2 h3 h4 h
theorem cI{P:Program}{f:FuncId}{fn:Func}{c:Code}{asz:List AV}{st:List AO}{Q:AV→List AO→Prop}{n:Nat}(hf:P.funcs[f]? =some fn)(h:∀m φ w,m.length=st.length→WC P ⟨m,φ,w,n,none,none⟩ c (.fin fn Q) (fx 0 asz) st)(h1:(fn.name== "runtime.NumGoroutine")=false:=by kernel_rfl)
  (h2:fn.body=some c:=by exact rfl)(h3:fn.ntmps=n:=by exact rfl)(h4:Nat.ble asz.length n=true:=by exact rfl):Ctr P f asz st Q:=jL hf h1 h2 h3 h4 h
end Go.Sk
