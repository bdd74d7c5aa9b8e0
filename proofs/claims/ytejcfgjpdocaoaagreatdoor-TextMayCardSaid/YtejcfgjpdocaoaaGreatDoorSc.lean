/-
  Joins, loops and the ends of branches asz lemmas; what is shown in one way always is the default of an argument.
-/
import Derived.Test.YtejcfgjpdocaoaaGreatDoorSb
set_option linter.unusedVariables false
set_option linter.unusedSimpArgs false
set_option linter.unusedSectionVars false
set_option linter.unnecessarySimpa false
namespace Go.Sk
open Go.RowKit (Below)
section
variable{P:Program}{e:En}{ops:Array Oper}{rest:List Oper}{env:Env}{st:List AO}{R:Env→List AO→Prop}{κ:Ko}{x y:Code}
theorem Lv{a b:AV}(h:Le a b:=by
 repeat' (first|exact Le.refl _|exact Le.nil|exact Le.u _|exact Le.fs _|exact Les.refl _|exact trivial|refine dT ?_|refine aR ?_|refine Le.fnc ?_ ?_|refine⟨?_,?_⟩)):Le a b:=h
theorem Lw{a b:List AV}(h:Les a b:=by
 repeat' (first|exact Le.refl _|exact Le.nil|exact Le.u _|exact Le.fs _|exact Les.refl _|exact trivial|refine dT ?_|refine aR ?_|refine Le.fnc ?_ ?_|refine⟨?_,?_⟩)):Les a b:=h
theorem Rv{f:Func}{r:AV}(h:Res P f env st r:=by
 first|exact rs1 rfl (bv rfl)|exact rs2 rfl (bv rfl) (bv rfl)|exact fO rfl|exact rs3 rfl (bv rfl) (bv rfl) (bv rfl)):Res P f env st r:=h
theorem Ci{c:Operand}{t:Bool}{β:Sort _}{a b z:β}(h:(bif t then a else b)=z)(hc:opv env c=some (.d (.v (.bool t))))(h1:a=z→WC P e x κ env st)(h0:b=z→WC P e y κ env st):WC P e (.cond c x y) κ env st:=gi hc (λhh=>h1 (cX h hh)) (λhh=>h0 (cY h hh))
theorem Ix{α β:Type}{E Q:α→List D}{L:List α}{i:Int}{F:α→Option β}{r:β}{T n d:Nat}{bb:Bool}{x ix:Operand}{xr:AV}{kk:IntKind}{ty:TypeId}{pos:String}{after:Array Edge}(h:Option.bind (idx L i) F=some r)(hT:aB P T=some (n,bb))(hE:∀x,E x=Q x)(hx:opv env x=some xr)(hle:Le xr (.d (.sl (L.map E))))(hi:opv env ix=some (.d (.v (.int kk i))))(hd:Nat.ble (d+1) e.n=true)
  (k:∀x,idx L i=some x→F x=some r→WL P e ops rest ((d, .d (.pc (Q x)))::env) st R)(hn:∀x,(Q x).length=n:=by exact λ_=>rfl):WL P e ops (⟨some d, .indexAddr T x ix,ty,pos,after,none⟩::rest) env st R:=by
 obtain⟨z,hz,h⟩:=ac h
 exact WL.qn (ah hT hx hle hi (af hz) (ar hE hz) (hn z)) hd (k z hz h)
theorem FA{a p:Prop}(ha:a)(h:a→p:=by
 intro h
 obtain rfl:=inS h
 exact aW Rv Lv):p:=h ha
theorem FB{a p:Prop}(ha:a)(h:a→p:=by
 intro h
 subst h
 exact aW Rv Lv):p:=h ha
variable{dd:Nat}{ty:TypeId}{pos:String}{after:Array Edge}
theorem Bd{T:TypeId}{x:Operand}{r:AV}{ds:List D}(hx:opv env x=some r)(hk:r.okc=true)(hc:Les r.cells (ds.map .d))(hd:Nat.ble (dd+1) e.n=true)(h:WL P e ops rest ((dd, .d (.pc ds))::env) st R):WL P e ops (⟨some dd, .box T x,ty,pos,after,none⟩::rest) env st R:=WL.s (kT hx hk hc).does (Wt.none rfl) rfl hd h
theorem Bx{T:TypeId}{x:Operand}{r:AV}(hx:opv env x=some r)(hk:r.okc=true)(hd:Nat.ble (dd+1) e.n=true)(h:WL P e ops rest ((dd, .pt st.length 0)::env) (st++ [.row T r.cells]) R):WL P e ops (⟨some dd, .box T x,ty,pos,after,none⟩::rest) env st R:=WL.s (b_box hx hk).does (Wt.none rfl) rfl hd h
theorem Al{T:TypeId}{vs:List Value}(hz:aJ P T=some vs)(hd:Nat.ble (dd+1) e.n=true)(h:WL P e ops rest ((dd, .pt st.length 0)::env) (st++ [.row T (vs.map λv=> .d (.v v))]) R):WL P e ops (⟨some dd, .alloc T,ty,pos,after,none⟩::rest) env st R:=WL.s (oG hz).does (Wt.none rfl) rfl hd h
theorem Tv{a b:List AO}(h:SLe a b:=by
 first|exact SLe.refl _|repeat' (first|exact rfl|exact Le.refl _|exact Le.nil|exact Le.u _|exact Le.fs _|exact Les.refl _|exact trivial|refine dT ?_|refine aR ?_|refine Le.fnc ?_ ?_|refine⟨?_,?_⟩)):SLe a b:=h
theorem Cb{b c:Bool}(h:b=c):D.v (Value.bool b)=D.v (Value.bool c):=by rw[h]
theorem Re{α:Type}{a:α}{l l':List α}(k:l=l'):a::l=a::l':=by rw[k]
theorem Kv{n:Nat}{l:List AO}(h:eS n l=true:=by
 first|exact rfl|repeat' (first|exact rfl|refine dr rfl ?_|refine dr (qf _ _ _ _ _ _) ?_|refine dr (qh _ _ _ _ _ _) ?_|refine dr (tN _ _ _ _ _ _ _ rfl) ?_)):eS n l=true:=h
theorem Sb{a b:Env}(h:Sub a b:=by
 repeat' (first|exact Sub.nil _|refine Sub.cons rfl ?_ ?_|exact Le.refl _|exact Le.nil|exact Le.u _|exact Le.fs _|exact Les.refl _|exact trivial|refine dT ?_|refine aR ?_|refine Le.fnc ?_ ?_|refine⟨?_,?_⟩)):Sub a b:=h
section
universe uu
variable{β:Sort uu}{z:β}{n:Nat}{α0 α1 α2 α3 α4 α5 α6 α7 α8 α9 α10 α11 α12 α13 α14 α15 α16 α17 α18 α19 α20 α21 α22 α23 α24 α25 α26 α27 α28 α29 α30 α31 α32 α33 α34 α35:Type}
theorem Jn0(A:Env)(S:List AO){K:Unit→β}{F:(Unit→β)→β}(h:ap K F=z)(h1:∀k:Unit→β,F k=z→WC P e x (.lp (λu v=>k ()=z∧Sub (A) u∧SLe v (S)) κ) env st)(h2:K ()=z→WC P e y κ (A) (S)):WC P e (.seq x y) κ env st:=by
 refine bQ _ (h1 K h) ?_
 rintro u v ⟨h,hs,hw⟩
 exact WC.sub hs (WC.weak hw (h2 h))
theorem En0{A:Env}{S:List AO}{k:Unit→β}(h:k ()=z)(h0:Sub (A) env:=by exact Sb)(h1:SLe st (S):=by exact Tv):WE P e .normal (.lp (λu v=>k ()=z∧Sub (A) u∧SLe v (S)) κ) env st:=cN ⟨h,h0,h1⟩
theorem Jn1(A:α0→Env)(S:α0→List AO){K:α0→β}{F:(α0→β)→β}(h:ap K F=z)(h1:∀k:α0→β,F k=z→WC P e x (.lp (λu v=>∃x0,k x0=z∧Sub (A x0) u∧SLe v (S x0)) κ) env st)(h2:∀x0,K x0=z→WC P e y κ (A x0) (S x0)):WC P e (.seq x y) κ env st:=by
 refine bQ _ (h1 K h) ?_
 rintro u v ⟨x0,h,hs,hw⟩
 exact WC.sub hs (WC.weak hw (h2 x0 h))
theorem Ln1(A:α0→Env)(S:α0→List AO)(L:Nat→α0→β){N:Nat}{i0:α0}(h:L N i0=z)(hz:∀x0,L 0 x0=z→False)(hs':∀n x0,L (n+1) x0=z→WC P e x (.lp (λu v=>∃y,(∃x0,L y x0=z∧Sub (A x0) u∧SLe v (S x0))∧y<n+1) κ) (A x0) (S x0))(h0:Sub (A i0) env:=by exact Sb)(h1:SLe st (S i0):=by exact Tv):WC P e (.loop x) κ env st:=by
 refine cB (λn u v=>∃x0,L n x0=z∧Sub (A x0) u∧SLe v (S x0)) (λn=>n) N ⟨_,h,h0,h1⟩ ?_
 rintro n u v ⟨x0,h,hs,hw⟩
 rcases n with _|n
 ·exact(hz x0 h).elim
 ·exact WC.sub hs (WC.weak hw (hs' n x0 h))
theorem En1{A:α0→Env}{S:α0→List AO}{k:α0→β}{i0:α0}(h:k i0=z)(h0:Sub (A i0) env:=by exact Sb)(h1:SLe st (S i0):=by exact Tv):WE P e .normal (.lp (λu v=>∃x0,k x0=z∧Sub (A x0) u∧SLe v (S x0)) κ) env st:=cN ⟨_,h,h0,h1⟩
theorem Fn1{A:α0→Env}{S:α0→List AO}{L:Nat→α0→β}{i0:α0}(h:L n i0=z)(h0:Sub (A i0) env:=by exact Sb)(h1:SLe st (S i0):=by exact Tv):WE P e .normal (.lp (λu v=>∃y,(∃x0,L y x0=z∧Sub (A x0) u∧SLe v (S x0))∧y<n+1) κ) env st:=cN ⟨n,⟨_,h,h0,h1⟩,Nat.lt_succ_self n⟩
theorem Jn2(A:α0→α1→Env)(S:α0→α1→List AO){K:α0→α1→β}{F:(α0→α1→β)→β}(h:ap K F=z)(h1:∀k:α0→α1→β,F k=z→WC P e x (.lp (λu v=>∃x0 x1,k x0 x1=z∧Sub (A x0 x1) u∧SLe v (S x0 x1)) κ) env st)(h2:∀x0 x1,K x0 x1=z→WC P e y κ (A x0 x1) (S x0 x1)):WC P e (.seq x y) κ env st:=by
 refine bQ _ (h1 K h) ?_
 rintro u v ⟨x0,x1,h,hs,hw⟩
 exact WC.sub hs (WC.weak hw (h2 x0 x1 h))
theorem Ln2(A:α0→α1→Env)(S:α0→α1→List AO)(L:Nat→α0→α1→β){N:Nat}{i0:α0}{i1:α1}(h:L N i0 i1=z)(hz:∀x0 x1,L 0 x0 x1=z→False)(hs':∀n x0 x1,L (n+1) x0 x1=z→WC P e x (.lp (λu v=>∃y,(∃x0 x1,L y x0 x1=z∧Sub (A x0 x1) u∧SLe v (S x0 x1))∧y<n+1) κ) (A x0 x1) (S x0 x1))(h0:Sub (A i0 i1) env:=by exact Sb)(h1:SLe st (S i0 i1):=by exact Tv):WC P e (.loop x) κ env st:=by
 refine cB (λn u v=>∃x0 x1,L n x0 x1=z∧Sub (A x0 x1) u∧SLe v (S x0 x1)) (λn=>n) N ⟨_,_,h,h0,h1⟩ ?_
 rintro n u v ⟨x0,x1,h,hs,hw⟩
 rcases n with _|n
 ·exact(hz x0 x1 h).elim
 ·exact WC.sub hs (WC.weak hw (hs' n x0 x1 h))
theorem En2{A:α0→α1→Env}{S:α0→α1→List AO}{k:α0→α1→β}{i0:α0}{i1:α1}(h:k i0 i1=z)(h0:Sub (A i0 i1) env:=by exact Sb)(h1:SLe st (S i0 i1):=by exact Tv):WE P e .normal (.lp (λu v=>∃x0 x1,k x0 x1=z∧Sub (A x0 x1) u∧SLe v (S x0 x1)) κ) env st:=cN ⟨_,_,h,h0,h1⟩
theorem Fn2{A:α0→α1→Env}{S:α0→α1→List AO}{L:Nat→α0→α1→β}{i0:α0}{i1:α1}(h:L n i0 i1=z)(h0:Sub (A i0 i1) env:=by exact Sb)(h1:SLe st (S i0 i1):=by exact Tv):WE P e .normal (.lp (λu v=>∃y,(∃x0 x1,L y x0 x1=z∧Sub (A x0 x1) u∧SLe v (S x0 x1))∧y<n+1) κ) env st:=cN ⟨n,⟨_,_,h,h0,h1⟩,Nat.lt_succ_self n⟩
theorem Jn3(A:α0→α1→α2→Env)(S:α0→α1→α2→List AO){K:α0→α1→α2→β}{F:(α0→α1→α2→β)→β}(h:ap K F=z)(h1:∀k:α0→α1→α2→β,F k=z→WC P e x (.lp (λu v=>∃x0 x1 x2,k x0 x1 x2=z∧Sub (A x0 x1 x2) u∧SLe v (S x0 x1 x2)) κ) env st)(h2:∀x0 x1 x2,K x0 x1 x2=z→WC P e y κ (A x0 x1 x2) (S x0 x1 x2)):WC P e (.seq x y) κ env st:=by
 refine bQ _ (h1 K h) ?_
 rintro u v ⟨x0,x1,x2,h,hs,hw⟩
 exact WC.sub hs (WC.weak hw (h2 x0 x1 x2 h))
theorem En3{A:α0→α1→α2→Env}{S:α0→α1→α2→List AO}{k:α0→α1→α2→β}{i0:α0}{i1:α1}{i2:α2}(h:k i0 i1 i2=z)(h0:Sub (A i0 i1 i2) env:=by exact Sb)(h1:SLe st (S i0 i1 i2):=by exact Tv):WE P e .normal (.lp (λu v=>∃x0 x1 x2,k x0 x1 x2=z∧Sub (A x0 x1 x2) u∧SLe v (S x0 x1 x2)) κ) env st:=cN ⟨_,_,_,h,h0,h1⟩
theorem Fn3{A:α0→α1→α2→Env}{S:α0→α1→α2→List AO}{L:Nat→α0→α1→α2→β}{i0:α0}{i1:α1}{i2:α2}(h:L n i0 i1 i2=z)(h0:Sub (A i0 i1 i2) env:=by exact Sb)(h1:SLe st (S i0 i1 i2):=by exact Tv):WE P e .normal (.lp (λu v=>∃y,(∃x0 x1 x2,L y x0 x1 x2=z∧Sub (A x0 x1 x2) u∧SLe v (S x0 x1 x2))∧y<n+1) κ) env st:=cN ⟨n,⟨_,_,_,h,h0,h1⟩,Nat.lt_succ_self n⟩
theorem Jn4(A:α0→α1→α2→α3→Env)(S:α0→α1→α2→α3→List AO){K:α0→α1→α2→α3→β}{F:(α0→α1→α2→α3→β)→β}(h:ap K F=z)(h1:∀k:α0→α1→α2→α3→β,F k=z→WC P e x (.lp (λu v=>∃x0 x1 x2 x3,k x0 x1 x2 x3=z∧Sub (A x0 x1 x2 x3) u∧SLe v (S x0 x1 x2 x3)) κ) env st)(h2:∀x0 x1 x2 x3,K x0 x1 x2 x3=z→WC P e y κ (A x0 x1 x2 x3) (S x0 x1 x2 x3)):WC P e (.seq x y) κ env st:=by
 refine bQ _ (h1 K h) ?_
 rintro u v ⟨x0,x1,x2,x3,h,hs,hw⟩
 exact WC.sub hs (WC.weak hw (h2 x0 x1 x2 x3 h))
theorem Ln4(A:α0→α1→α2→α3→Env)(S:α0→α1→α2→α3→List AO)(L:Nat→α0→α1→α2→α3→β){N:Nat}{i0:α0}{i1:α1}{i2:α2}{i3:α3}(h:L N i0 i1 i2 i3=z)(hz:∀x0 x1 x2 x3,L 0 x0 x1 x2 x3=z→False)(hs':∀n x0 x1 x2 x3,L (n+1) x0 x1 x2 x3=z→WC P e x (.lp (λu v=>∃y,(∃x0 x1 x2 x3,L y x0 x1 x2 x3=z∧Sub (A x0 x1 x2 x3) u∧SLe v (S x0 x1 x2 x3))∧y<n+1) κ) (A x0 x1 x2 x3) (S x0 x1 x2 x3))(h0:Sub (A i0 i1 i2 i3) env:=by exact Sb)(h1:SLe st (S i0 i1 i2 i3):=by exact Tv):WC P e (.loop x) κ env st:=by
 refine cB (λn u v=>∃x0 x1 x2 x3,L n x0 x1 x2 x3=z∧Sub (A x0 x1 x2 x3) u∧SLe v (S x0 x1 x2 x3)) (λn=>n) N ⟨_,_,_,_,h,h0,h1⟩ ?_
 rintro n u v ⟨x0,x1,x2,x3,h,hs,hw⟩
 rcases n with _|n
 ·exact(hz x0 x1 x2 x3 h).elim
 ·exact WC.sub hs (WC.weak hw (hs' n x0 x1 x2 x3 h))
theorem En4{A:α0→α1→α2→α3→Env}{S:α0→α1→α2→α3→List AO}{k:α0→α1→α2→α3→β}{i0:α0}{i1:α1}{i2:α2}{i3:α3}(h:k i0 i1 i2 i3=z)(h0:Sub (A i0 i1 i2 i3) env:=by exact Sb)(h1:SLe st (S i0 i1 i2 i3):=by exact Tv):WE P e .normal (.lp (λu v=>∃x0 x1 x2 x3,k x0 x1 x2 x3=z∧Sub (A x0 x1 x2 x3) u∧SLe v (S x0 x1 x2 x3)) κ) env st:=cN ⟨_,_,_,_,h,h0,h1⟩
theorem Fn4{A:α0→α1→α2→α3→Env}{S:α0→α1→α2→α3→List AO}{L:Nat→α0→α1→α2→α3→β}{i0:α0}{i1:α1}{i2:α2}{i3:α3}(h:L n i0 i1 i2 i3=z)(h0:Sub (A i0 i1 i2 i3) env:=by exact Sb)(h1:SLe st (S i0 i1 i2 i3):=by exact Tv):WE P e .normal (.lp (λu v=>∃y,(∃x0 x1 x2 x3,L y x0 x1 x2 x3=z∧Sub (A x0 x1 x2 x3) u∧SLe v (S x0 x1 x2 x3))∧y<n+1) κ) env st:=cN ⟨n,⟨_,_,_,_,h,h0,h1⟩,Nat.lt_succ_self n⟩
theorem Jn5(A:α0→α1→α2→α3→α4→Env)(S:α0→α1→α2→α3→α4→List AO){K:α0→α1→α2→α3→α4→β}{F:(α0→α1→α2→α3→α4→β)→β}(h:ap K F=z)(h1:∀k:α0→α1→α2→α3→α4→β,F k=z→WC P e x (.lp (λu v=>∃x0 x1 x2 x3 x4,k x0 x1 x2 x3 x4=z∧Sub (A x0 x1 x2 x3 x4) u∧SLe v (S x0 x1 x2 x3 x4)) κ) env st)(h2:∀x0 x1 x2 x3 x4,K x0 x1 x2 x3 x4=z→WC P e y κ (A x0 x1 x2 x3 x4) (S x0 x1 x2 x3 x4)):WC P e (.seq x y) κ env st:=by
 refine bQ _ (h1 K h) ?_
 rintro u v ⟨x0,x1,x2,x3,x4,h,hs,hw⟩
 exact WC.sub hs (WC.weak hw (h2 x0 x1 x2 x3 x4 h))
theorem En5{A:α0→α1→α2→α3→α4→Env}{S:α0→α1→α2→α3→α4→List AO}{k:α0→α1→α2→α3→α4→β}{i0:α0}{i1:α1}{i2:α2}{i3:α3}{i4:α4}(h:k i0 i1 i2 i3 i4=z)(h0:Sub (A i0 i1 i2 i3 i4) env:=by exact Sb)(h1:SLe st (S i0 i1 i2 i3 i4):=by exact Tv):WE P e .normal (.lp (λu v=>∃x0 x1 x2 x3 x4,k x0 x1 x2 x3 x4=z∧Sub (A x0 x1 x2 x3 x4) u∧SLe v (S x0 x1 x2 x3 x4)) κ) env st:=cN ⟨_,_,_,_,_,h,h0,h1⟩
theorem Jn6(A:α0→α1→α2→α3→α4→α5→Env)(S:α0→α1→α2→α3→α4→α5→List AO){K:α0→α1→α2→α3→α4→α5→β}{F:(α0→α1→α2→α3→α4→α5→β)→β}(h:ap K F=z)(h1:∀k:α0→α1→α2→α3→α4→α5→β,F k=z→WC P e x (.lp (λu v=>∃x0 x1 x2 x3 x4 x5,k x0 x1 x2 x3 x4 x5=z∧Sub (A x0 x1 x2 x3 x4 x5) u∧SLe v (S x0 x1 x2 x3 x4 x5)) κ) env st)(h2:∀x0 x1 x2 x3 x4 x5,K x0 x1 x2 x3 x4 x5=z→WC P e y κ (A x0 x1 x2 x3 x4 x5) (S x0 x1 x2 x3 x4 x5)):WC P e (.seq x y) κ env st:=by
 refine bQ _ (h1 K h) ?_
 rintro u v ⟨x0,x1,x2,x3,x4,x5,h,hs,hw⟩
 exact WC.sub hs (WC.weak hw (h2 x0 x1 x2 x3 x4 x5 h))
theorem En6{A:α0→α1→α2→α3→α4→α5→Env}{S:α0→α1→α2→α3→α4→α5→List AO}{k:α0→α1→α2→α3→α4→α5→β}{i0:α0}{i1:α1}{i2:α2}{i3:α3}{i4:α4}{i5:α5}(h:k i0 i1 i2 i3 i4 i5=z)(h0:Sub (A i0 i1 i2 i3 i4 i5) env:=by exact Sb)(h1:SLe st (S i0 i1 i2 i3 i4 i5):=by exact Tv):WE P e .normal (.lp (λu v=>∃x0 x1 x2 x3 x4 x5,k x0 x1 x2 x3 x4 x5=z∧Sub (A x0 x1 x2 x3 x4 x5) u∧SLe v (S x0 x1 x2 x3 x4 x5)) κ) env st:=cN ⟨_,_,_,_,_,_,h,h0,h1⟩
theorem Jn7(A:α0→α1→α2→α3→α4→α5→α6→Env)(S:α0→α1→α2→α3→α4→α5→α6→List AO){K:α0→α1→α2→α3→α4→α5→α6→β}{F:(α0→α1→α2→α3→α4→α5→α6→β)→β}(h:ap K F=z)(h1:∀k:α0→α1→α2→α3→α4→α5→α6→β,F k=z→WC P e x (.lp (λu v=>∃x0 x1 x2 x3 x4 x5 x6,k x0 x1 x2 x3 x4 x5 x6=z∧Sub (A x0 x1 x2 x3 x4 x5 x6) u∧SLe v (S x0 x1 x2 x3 x4 x5 x6)) κ) env st)(h2:∀x0 x1 x2 x3 x4 x5 x6,K x0 x1 x2 x3 x4 x5 x6=z→WC P e y κ (A x0 x1 x2 x3 x4 x5 x6) (S x0 x1 x2 x3 x4 x5 x6)):WC P e (.seq x y) κ env st:=by
 refine bQ _ (h1 K h) ?_
 rintro u v ⟨x0,x1,x2,x3,x4,x5,x6,h,hs,hw⟩
 exact WC.sub hs (WC.weak hw (h2 x0 x1 x2 x3 x4 x5 x6 h))
theorem Ln7(A:α0→α1→α2→α3→α4→α5→α6→Env)(S:α0→α1→α2→α3→α4→α5→α6→List AO)(L:Nat→α0→α1→α2→α3→α4→α5→α6→β){N:Nat}{i0:α0}{i1:α1}{i2:α2}{i3:α3}{i4:α4}{i5:α5}{i6:α6}(h:L N i0 i1 i2 i3 i4 i5 i6=z)(hz:∀x0 x1 x2 x3 x4 x5 x6,L 0 x0 x1 x2 x3 x4 x5 x6=z→False)(hs':∀n x0 x1 x2 x3 x4 x5 x6,L (n+1) x0 x1 x2 x3 x4 x5 x6=z→WC P e x (.lp (λu v=>∃y,(∃x0 x1 x2 x3 x4 x5 x6,L y x0 x1 x2 x3 x4 x5 x6=z∧Sub (A x0 x1 x2 x3 x4 x5 x6) u∧SLe v (S x0 x1 x2 x3 x4 x5 x6))∧y<n+1) κ) (A x0 x1 x2 x3 x4 x5 x6) (S x0 x1 x2 x3 x4 x5 x6))(h0:Sub (A i0 i1 i2 i3 i4 i5 i6) env:=by exact Sb)(h1:SLe st (S i0 i1 i2 i3 i4 i5 i6):=by exact Tv):WC P e (.loop x) κ env st:=by
 refine cB (λn u v=>∃x0 x1 x2 x3 x4 x5 x6,L n x0 x1 x2 x3 x4 x5 x6=z∧Sub (A x0 x1 x2 x3 x4 x5 x6) u∧SLe v (S x0 x1 x2 x3 x4 x5 x6)) (λn=>n) N ⟨_,_,_,_,_,_,_,h,h0,h1⟩ ?_
 rintro n u v ⟨x0,x1,x2,x3,x4,x5,x6,h,hs,hw⟩
 rcases n with _|n
 ·exact(hz x0 x1 x2 x3 x4 x5 x6 h).elim
 ·exact WC.sub hs (WC.weak hw (hs' n x0 x1 x2 x3 x4 x5 x6 h))
theorem Fn7{A:α0→α1→α2→α3→α4→α5→α6→Env}{S:α0→α1→α2→α3→α4→α5→α6→List AO}{L:Nat→α0→α1→α2→α3→α4→α5→α6→β}{i0:α0}{i1:α1}{i2:α2}{i3:α3}{i4:α4}{i5:α5}{i6:α6}(h:L n i0 i1 i2 i3 i4 i5 i6=z)(h0:Sub (A i0 i1 i2 i3 i4 i5 i6) env:=by exact Sb)(h1:SLe st (S i0 i1 i2 i3 i4 i5 i6):=by exact Tv):WE P e .normal (.lp (λu v=>∃y,(∃x0 x1 x2 x3 x4 x5 x6,L y x0 x1 x2 x3 x4 x5 x6=z∧Sub (A x0 x1 x2 x3 x4 x5 x6) u∧SLe v (S x0 x1 x2 x3 x4 x5 x6))∧y<n+1) κ) env st:=cN ⟨n,⟨_,_,_,_,_,_,_,h,h0,h1⟩,Nat.lt_succ_self n⟩
theorem Jn8(A:α0→α1→α2→α3→α4→α5→α6→α7→Env)(S:α0→α1→α2→α3→α4→α5→α6→α7→List AO){K:α0→α1→α2→α3→α4→α5→α6→α7→β}{F:(α0→α1→α2→α3→α4→α5→α6→α7→β)→β}(h:ap K F=z)(h1:∀k:α0→α1→α2→α3→α4→α5→α6→α7→β,F k=z→WC P e x (.lp (λu v=>∃x0 x1 x2 x3 x4 x5 x6 x7,k x0 x1 x2 x3 x4 x5 x6 x7=z∧Sub (A x0 x1 x2 x3 x4 x5 x6 x7) u∧SLe v (S x0 x1 x2 x3 x4 x5 x6 x7)) κ) env st)(h2:∀x0 x1 x2 x3 x4 x5 x6 x7,K x0 x1 x2 x3 x4 x5 x6 x7=z→WC P e y κ (A x0 x1 x2 x3 x4 x5 x6 x7) (S x0 x1 x2 x3 x4 x5 x6 x7)):WC P e (.seq x y) κ env st:=by
 refine bQ _ (h1 K h) ?_
 rintro u v ⟨x0,x1,x2,x3,x4,x5,x6,x7,h,hs,hw⟩
 exact WC.sub hs (WC.weak hw (h2 x0 x1 x2 x3 x4 x5 x6 x7 h))
theorem Ln8(A:α0→α1→α2→α3→α4→α5→α6→α7→Env)(S:α0→α1→α2→α3→α4→α5→α6→α7→List AO)(L:Nat→α0→α1→α2→α3→α4→α5→α6→α7→β){N:Nat}{i0:α0}{i1:α1}{i2:α2}{i3:α3}{i4:α4}{i5:α5}{i6:α6}{i7:α7}(h:L N i0 i1 i2 i3 i4 i5 i6 i7=z)(hz:∀x0 x1 x2 x3 x4 x5 x6 x7,L 0 x0 x1 x2 x3 x4 x5 x6 x7=z→False)(hs':∀n x0 x1 x2 x3 x4 x5 x6 x7,L (n+1) x0 x1 x2 x3 x4 x5 x6 x7=z→WC P e x (.lp (λu v=>∃y,(∃x0 x1 x2 x3 x4 x5 x6 x7,L y x0 x1 x2 x3 x4 x5 x6 x7=z∧Sub (A x0 x1 x2 x3 x4 x5 x6 x7) u∧SLe v (S x0 x1 x2 x3 x4 x5 x6 x7))∧y<n+1) κ) (A x0 x1 x2 x3 x4 x5 x6 x7) (S x0 x1 x2 x3 x4 x5 x6 x7))(h0:Sub (A i0 i1 i2 i3 i4 i5 i6 i7) env:=by exact Sb)(h1:SLe st (S i0 i1 i2 i3 i4 i5 i6 i7):=by exact Tv):WC P e (.loop x) κ env st:=by
 refine cB (λn u v=>∃x0 x1 x2 x3 x4 x5 x6 x7,L n x0 x1 x2 x3 x4 x5 x6 x7=z∧Sub (A x0 x1 x2 x3 x4 x5 x6 x7) u∧SLe v (S x0 x1 x2 x3 x4 x5 x6 x7)) (λn=>n) N ⟨_,_,_,_,_,_,_,_,h,h0,h1⟩ ?_
 rintro n u v ⟨x0,x1,x2,x3,x4,x5,x6,x7,h,hs,hw⟩
 rcases n with _|n
 ·exact(hz x0 x1 x2 x3 x4 x5 x6 x7 h).elim
 ·exact WC.sub hs (WC.weak hw (hs' n x0 x1 x2 x3 x4 x5 x6 x7 h))
theorem Jn10(A:α0→α1→α2→α3→α4→α5→α6→α7→α8→α9→Env)(S:α0→α1→α2→α3→α4→α5→α6→α7→α8→α9→List AO){K:α0→α1→α2→α3→α4→α5→α6→α7→α8→α9→β}{F:(α0→α1→α2→α3→α4→α5→α6→α7→α8→α9→β)→β}(h:ap K F=z)(h1:∀k:α0→α1→α2→α3→α4→α5→α6→α7→α8→α9→β,F k=z→WC P e x (.lp (λu v=>∃x0 x1 x2 x3 x4 x5 x6 x7 x8 x9,k x0 x1 x2 x3 x4 x5 x6 x7 x8 x9=z∧Sub (A x0 x1 x2 x3 x4 x5 x6 x7 x8 x9) u∧SLe v (S x0 x1 x2 x3 x4 x5 x6 x7 x8 x9)) κ) env st)(h2:∀x0 x1 x2 x3 x4 x5 x6 x7 x8 x9,K x0 x1 x2 x3 x4 x5 x6 x7 x8 x9=z→WC P e y κ (A x0 x1 x2 x3 x4 x5 x6 x7 x8 x9) (S x0 x1 x2 x3 x4 x5 x6 x7 x8 x9)):WC P e (.seq x y) κ env st:=by
 refine bQ _ (h1 K h) ?_
 rintro u v ⟨x0,x1,x2,x3,x4,x5,x6,x7,x8,x9,h,hs,hw⟩
 exact WC.sub hs (WC.weak hw (h2 x0 x1 x2 x3 x4 x5 x6 x7 x8 x9 h))
theorem Jn13(A:α0→α1→α2→α3→α4→α5→α6→α7→α8→α9→α10→α11→α12→Env)(S:α0→α1→α2→α3→α4→α5→α6→α7→α8→α9→α10→α11→α12→List AO){K:α0→α1→α2→α3→α4→α5→α6→α7→α8→α9→α10→α11→α12→β}{F:(α0→α1→α2→α3→α4→α5→α6→α7→α8→α9→α10→α11→α12→β)→β}(h:ap K F=z)(h1:∀k:α0→α1→α2→α3→α4→α5→α6→α7→α8→α9→α10→α11→α12→β,F k=z→WC P e x (.lp (λu v=>∃x0 x1 x2 x3 x4 x5 x6 x7 x8 x9 x10 x11 x12,k x0 x1 x2 x3 x4 x5 x6 x7 x8 x9 x10 x11 x12=z∧Sub (A x0 x1 x2 x3 x4 x5 x6 x7 x8 x9 x10 x11 x12) u∧SLe v (S x0 x1 x2 x3 x4 x5 x6 x7 x8 x9 x10 x11 x12)) κ) env st)(h2:∀x0 x1 x2 x3 x4 x5 x6 x7 x8 x9 x10 x11 x12,K x0 x1 x2 x3 x4 x5 x6 x7 x8 x9 x10 x11 x12=z→WC P e y κ (A x0 x1 x2 x3 x4 x5 x6 x7 x8 x9 x10 x11 x12) (S x0 x1 x2 x3 x4 x5 x6 x7 x8 x9 x10 x11 x12)):WC P e (.seq x y) κ env st:=by
 refine bQ _ (h1 K h) ?_
 rintro u v ⟨x0,x1,x2,x3,x4,x5,x6,x7,x8,x9,x10,x11,x12,h,hs,hw⟩
 exact WC.sub hs (WC.weak hw (h2 x0 x1 x2 x3 x4 x5 x6 x7 x8 x9 x10 x11 x12 h))
theorem Ln14(A:α0→α1→α2→α3→α4→α5→α6→α7→α8→α9→α10→α11→α12→α13→Env)(S:α0→α1→α2→α3→α4→α5→α6→α7→α8→α9→α10→α11→α12→α13→List AO)(L:Nat→α0→α1→α2→α3→α4→α5→α6→α7→α8→α9→α10→α11→α12→α13→β){N:Nat}{i0:α0}{i1:α1}{i2:α2}{i3:α3}{i4:α4}{i5:α5}{i6:α6}{i7:α7}{i8:α8}{i9:α9}{i10:α10}{i11:α11}{i12:α12}{i13:α13}(h:L N i0 i1 i2 i3 i4 i5 i6 i7 i8 i9 i10 i11 i12 i13=z)(hz:∀x0 x1 x2 x3 x4 x5 x6 x7 x8 x9 x10 x11 x12 x13,L 0 x0 x1 x2 x3 x4 x5 x6 x7 x8 x9 x10 x11 x12 x13=z→False)(hs':∀n x0 x1 x2 x3 x4 x5 x6 x7 x8 x9 x10 x11 x12 x13,L (n+1) x0 x1 x2 x3 x4 x5 x6 x7 x8 x9 x10 x11 x12 x13=z→WC P e x (.lp (λu v=>∃y,(∃x0 x1 x2 x3 x4 x5 x6 x7 x8 x9 x10 x11 x12 x13,L y x0 x1 x2 x3 x4 x5 x6 x7 x8 x9 x10 x11 x12 x13=z∧Sub (A x0 x1 x2 x3 x4 x5 x6 x7 x8 x9 x10 x11 x12 x13) u∧SLe v (S x0 x1 x2 x3 x4 x5 x6 x7 x8 x9 x10 x11 x12 x13))∧y<n+1) κ) (A x0 x1 x2 x3 x4 x5 x6 x7 x8 x9 x10 x11 x12 x13) (S x0 x1 x2 x3 x4 x5 x6 x7 x8 x9 x10 x11 x12 x13))(h0:Sub (A i0 i1 i2 i3 i4 i5 i6 i7 i8 i9 i10 i11 i12 i13) env:=by exact Sb)(h1:SLe st (S i0 i1 i2 i3 i4 i5 i6 i7 i8 i9 i10 i11 i12 i13):=by exact Tv):WC P e (.loop x) κ env st:=by
 refine cB (λn u v=>∃x0 x1 x2 x3 x4 x5 x6 x7 x8 x9 x10 x11 x12 x13,L n x0 x1 x2 x3 x4 x5 x6 x7 x8 x9 x10 x11 x12 x13=z∧Sub (A x0 x1 x2 x3 x4 x5 x6 x7 x8 x9 x10 x11 x12 x13) u∧SLe v (S x0 x1 x2 x3 x4 x5 x6 x7 x8 x9 x10 x11 x12 x13)) (λn=>n) N ⟨_,_,_,_,_,_,_,_,_,_,_,_,_,_,h,h0,h1⟩ ?_
 rintro n u v ⟨x0,x1,x2,x3,x4,x5,x6,x7,x8,x9,x10,x11,x12,x13,h,hs,hw⟩
 rcases n with _|n
 ·exact(hz x0 x1 x2 x3 x4 x5 x6 x7 x8 x9 x10 x11 x12 x13 h).elim
 ·exact WC.sub hs (WC.weak hw (hs' n x0 x1 x2 x3 x4 x5 x6 x7 x8 x9 x10 x11 x12 x13 h))
end
theorem RO{id:Nat}{l:List Oper}(rs:List AV)(tc:List (List Nat))(es:List Nat)(L:List (List AO))(plan:List (List Nat×List Nat×List Nat))(hm:P.follows .mixedOrders=true)(hok:iw l tc es plan=true)(hrs:Nat.beq rs.length l.length=true)(hes:es.all (λy=>Nat.blt y l.length)=true)
  (hobs:Obs P e l rs env (λc=>List.getD (st::L) c []) es 0 l plan)(h:WE P e .normal κ (FL env (λk=>Nat.blt k l.length) (bq l rs 0)) (List.getD (st::L) es.length []))(hnf:bm l=true:=by kernel_rfl):WC P e (.region id l.toArray true) κ env st:=ft rs tc es _ plan hm hok hrs hes rfl hobs h hnf
def tR(x:Nat):List Nat→List Nat
 |[]=> [x]
 |y::l=>bif Nat.beq x y then y::l else y::tR x l
def tcF(l:List Oper):List (List Nat):=l.foldl (λacc o=>acc++ [o.after.toList.foldl (λr e=>bif Region.binds .any e then(acc.getD e.on []).foldl (λr x=>tR x r) (tR e.on r) else r) []]) []
theorem RT{id:Nat}{l:List Oper}(rs:List AV)(es:List Nat)(L:List (List AO))(plan:List (List Nat×List Nat×List Nat))(hm:P.follows .mixedOrders=true)(hok:iw l (tcF l) es plan=true)(hrs:Nat.beq rs.length l.length=true)(hes:es.all (λy=>Nat.blt y l.length)=true)
  (hobs:Obs P e l rs env (λc=>List.getD (st::L) c []) es 0 l plan)(h:WE P e .normal κ (FL env (λk=>Nat.blt k l.length) (bq l rs 0)) (List.getD (st::L) es.length []))(hnf:bm l=true:=by kernel_rfl):WC P e (.region id l.toArray true) κ env st:=RO rs (tcF l) es L plan hm hok hrs hes hobs h hnf
theorem O1 [T:Tys P]{l:List Oper}{rs:List AV}{base:Env}{sts:Nat→List AO}{k d c:Nat}{o:Oper}{pk bk:List Nat}{up:Bool}{r:AV}(hd:o.dst=some d)(h:∀F:Env,il T.t e.n l.toArray (sts c) (eB l rs base pk bk++F) o=some ((d,r)::(eB l rs base pk bk++F)))(hr:rs[k]? =some r)(hu:up=false):ObC P e l rs base sts k o pk bk up [c]:=
 ⟨λF=>gp T.h (h F) (gK hd hr (by rw[hu];rfl)),trivial⟩
theorem O2 [T:Tys P]{l:List Oper}{rs:List AV}{base:Env}{sts:Nat→List AO}{k d c c':Nat}{o:Oper}{pk bk:List Nat}{r:AV}(hd:o.dst=some d)(h:∀F:Env,il T.t e.n l.toArray (sts c) (eB l rs base pk bk++F) o=some ((d,r)::(eB l rs base pk bk++F)))(hr:rs[k]? =some r)(hu:c'=c):Ob P e l rs base sts k o pk bk c c':=
 λF=>gp T.h (h F) (gK hd hr (by rw[hu]))
def rB{α:Type}:List α→Option (List α)
 |[]=>some []
 |a::l=>match rB l with
  |some l'=>some (a::l')
  |none=>none
theorem oh{α:Type}:∀{l l':List α},rB l=some l'→l=l'
 |[],l',h=>inS h
 |a::l,l',h=>by
  dsimp only[rB] at h
  split at h
  ·rename_i hl;rw[oh hl];exact inS h
  ·cases h
def tK:AO→Option AO
 | .row T cs=>match rB cs with
  |some c=>some (.row T c)
  |none=>none
 |o=>some o
theorem rA{o o':AO}(h:tK o=some o'):o=o':=by
 cases o with
 |row T cs=>
  dsimp only[tK] at h
  split at h
  ·rename_i hl;rw[oh hl];exact inS h
  ·cases h
 |_=>exact inS h
def rz:List AO→Option (List AO)
 |[]=>some []
 |a::l=>match tK a,rz l with
  |some a',some l'=>some (a'::l')
  |_,_=>none
theorem oe:∀{l l':List AO},rz l=some l'→l=l'
 |[],l',h=>inS h
 |a::l,l',h=>by
  dsimp only[rz] at h
  split at h
  ·rename_i ha hl;rw[rA ha,oe hl];exact inS h
  ·cases h
theorem St{st':List AO}(h:rz st=some st')(k:WL P e ops rest env st' R):WL P e ops rest env st R:=WL.st (oe h) k
end
section
variable{P:Program}{e:En}{l:List Oper}{rs:List AV}{base:Env}{sts:List Bool→List AO→Prop}{es:List Nat}
end
theorem Y1{a0 b:Prop}(k:b)(ha0:a0:=by exact O1 rfl (λ_=>rfl) rfl rfl):a0∧b:=⟨ha0,k⟩
theorem Y2{a0 a1 b:Prop}(k:b)(ha0:a0:=by exact O1 rfl (λ_=>rfl) rfl rfl)(ha1:a1:=by exact O1 rfl (λ_=>rfl) rfl rfl):a0∧a1∧b:=⟨ha0,ha1,k⟩
theorem Y3{a0 a1 a2 b:Prop}(k:b)(ha0:a0:=by exact O1 rfl (λ_=>rfl) rfl rfl)(ha1:a1:=by exact O1 rfl (λ_=>rfl) rfl rfl)(ha2:a2:=by exact O1 rfl (λ_=>rfl) rfl rfl):a0∧a1∧a2∧b:=⟨ha0,ha1,ha2,k⟩
theorem Y4{a0 a1 a2 a3 b:Prop}(k:b)(ha0:a0:=by exact O1 rfl (λ_=>rfl) rfl rfl)(ha1:a1:=by exact O1 rfl (λ_=>rfl) rfl rfl)(ha2:a2:=by exact O1 rfl (λ_=>rfl) rfl rfl)(ha3:a3:=by exact O1 rfl (λ_=>rfl) rfl rfl):a0∧a1∧a2∧a3∧b:=⟨ha0,ha1,ha2,ha3,k⟩
theorem Y8{a0 a1 a2 a3 a4 a5 a6 a7 b:Prop}(k:b)(ha0:a0:=by exact O1 rfl (λ_=>rfl) rfl rfl)(ha1:a1:=by exact O1 rfl (λ_=>rfl) rfl rfl)(ha2:a2:=by exact O1 rfl (λ_=>rfl) rfl rfl)(ha3:a3:=by exact O1 rfl (λ_=>rfl) rfl rfl)(ha4:a4:=by exact O1 rfl (λ_=>rfl) rfl rfl)(ha5:a5:=by exact O1 rfl (λ_=>rfl) rfl rfl)(ha6:a6:=by exact O1 rfl (λ_=>rfl) rfl rfl)(ha7:a7:=by exact O1 rfl (λ_=>rfl) rfl rfl):a0∧a1∧a2∧a3∧a4∧a5∧a6∧a7∧b:=⟨ha0,ha1,ha2,ha3,ha4,ha5,ha6,ha7,k⟩
theorem Y9{a0 a1 a2 a3 a4 a5 a6 a7 a8 b:Prop}(k:b)(ha0:a0:=by exact O1 rfl (λ_=>rfl) rfl rfl)(ha1:a1:=by exact O1 rfl (λ_=>rfl) rfl rfl)(ha2:a2:=by exact O1 rfl (λ_=>rfl) rfl rfl)(ha3:a3:=by exact O1 rfl (λ_=>rfl) rfl rfl)(ha4:a4:=by exact O1 rfl (λ_=>rfl) rfl rfl)(ha5:a5:=by exact O1 rfl (λ_=>rfl) rfl rfl)(ha6:a6:=by exact O1 rfl (λ_=>rfl) rfl rfl)(ha7:a7:=by exact O1 rfl (λ_=>rfl) rfl rfl)(ha8:a8:=by exact O1 rfl (λ_=>rfl) rfl rfl):a0∧a1∧a2∧a3∧a4∧a5∧a6∧a7∧a8∧b:=⟨ha0,ha1,ha2,ha3,ha4,ha5,ha6,ha7,ha8,k⟩
theorem X2a{a0 a1 b:Prop}(k:b)(h0:a0:=by exact O2 rfl (λ_=>rfl) rfl rfl)(h1:a1:=by exact O2 rfl (λ_=>rfl) rfl rfl):(a0∧a1∧True)∧b:=⟨⟨h0,h1,trivial⟩,k⟩
theorem X2b{a00 a01 a10 a11 b:Prop}(k:b)(ha00:a00:=by exact O2 rfl (λ_=>rfl) rfl rfl)(ha01:a01:=by exact O2 rfl (λ_=>rfl) rfl rfl)(ha10:a10:=by exact O2 rfl (λ_=>rfl) rfl rfl)(ha11:a11:=by exact O2 rfl (λ_=>rfl) rfl rfl):(a00∧a01∧True)∧(a10∧a11∧True)∧b:=⟨⟨ha00,ha01,trivial⟩,⟨ha10,ha11,trivial⟩,k⟩
theorem X2c{a00 a01 a10 a11 a20 a21 b:Prop}(k:b)(ha00:a00:=by exact O2 rfl (λ_=>rfl) rfl rfl)(ha01:a01:=by exact O2 rfl (λ_=>rfl) rfl rfl)(ha10:a10:=by exact O2 rfl (λ_=>rfl) rfl rfl)(ha11:a11:=by exact O2 rfl (λ_=>rfl) rfl rfl)(ha20:a20:=by exact O2 rfl (λ_=>rfl) rfl rfl)(ha21:a21:=by exact O2 rfl (λ_=>rfl) rfl rfl):(a00∧a01∧True)∧(a10∧a11∧True)∧(a20∧a21∧True)∧b:=⟨⟨ha00,ha01,trivial⟩,⟨ha10,ha11,trivial⟩,⟨ha20,ha21,trivial⟩,k⟩
theorem X2d{a00 a01 a10 a11 a20 a21 a30 a31 b:Prop}(k:b)(ha00:a00:=by exact O2 rfl (λ_=>rfl) rfl rfl)(ha01:a01:=by exact O2 rfl (λ_=>rfl) rfl rfl)(ha10:a10:=by exact O2 rfl (λ_=>rfl) rfl rfl)(ha11:a11:=by exact O2 rfl (λ_=>rfl) rfl rfl)(ha20:a20:=by exact O2 rfl (λ_=>rfl) rfl rfl)(ha21:a21:=by exact O2 rfl (λ_=>rfl) rfl rfl)(ha30:a30:=by exact O2 rfl (λ_=>rfl) rfl rfl)(ha31:a31:=by exact O2 rfl (λ_=>rfl) rfl rfl):(a00∧a01∧True)∧(a10∧a11∧True)∧(a20∧a21∧True)∧(a30∧a31∧True)∧b:=⟨⟨ha00,ha01,trivial⟩,⟨ha10,ha11,trivial⟩,⟨ha20,ha21,trivial⟩,⟨ha30,ha31,trivial⟩,k⟩
theorem rc{P:Program}{e:En}[T:Tys P]{l:List Oper}{rs:List AV}{base:Env}{sts:Nat→List AO}{k d c c':Nat}{o:Oper}{pk bk:List Nat}{a b:Bool}(hb:a=b)(h:∀F:Env,gt T.t e.n l.toArray (sts c) 1 [o] (eB l rs base pk bk++F)=some ([],(d, .d (.v (.bool a)))::(eB l rs base pk bk++F)):=by exact λ_=>rfl)(hd:o.dst=some d:=by exact rfl)(hr:rs[k]? =some (.d (.v (.bool b))):=by exact rfl)(hu:sts c=sts c':=by exact rfl):Ob P e l rs base sts k o pk bk c c':=
 λF=>Rl 1 (h F) (WL.cast d (by simp[aF]) (ur (Cb hb)) (q7 hd hr hu))
theorem zo{a b:Prop}(h:a)(k:b):(a∧True)∧b:=⟨⟨h,trivial⟩,k⟩
abbrev p00:List Nat×List Nat×List Nat:=([],[],[0])
abbrev p01(y0:Nat):List Nat×List Nat×List Nat:=([],[y0],[0])
abbrev q01(y0 z:Nat):List Nat×List Nat×List Nat:=([],[y0],[z])
abbrev p10(x0:Nat):List Nat×List Nat×List Nat:=([x0],[],[0])
abbrev p11(x0 y0:Nat):List Nat×List Nat×List Nat:=([x0],[y0],[0])
abbrev p20(x0 x1:Nat):List Nat×List Nat×List Nat:=([x0,x1],[],[0])
abbrev q20(x0 x1 z:Nat):List Nat×List Nat×List Nat:=([x0,x1],[],[z])
abbrev p30(x0 x1 x2:Nat):List Nat×List Nat×List Nat:=([x0,x1,x2],[],[0])
abbrev u01(y0:Nat):List Nat×List Nat×List Nat:=([],[y0],[0,1])
abbrev u10(x0:Nat):List Nat×List Nat×List Nat:=([x0],[],[0,1])
abbrev v10(x0:Nat):List Nat×List Nat×List Nat:=([x0],[],[1,2])
abbrev u20(x0 x1:Nat):List Nat×List Nat×List Nat:=([x0,x1],[],[0,1])
theorem Z6{α β γ δ ε ζ:Type}{a:α}{b:β}{c:γ}{d:δ}{e:ε}{f:ζ}:a=a∧b=b∧c=c∧d=d∧e=e∧f=f:=⟨rfl,rfl,rfl,rfl,rfl,rfl⟩
theorem Z2{α β:Type}{a:α}{b:β}:a=a∧b=b:=⟨rfl,rfl⟩
theorem Z4{α β γ δ:Type}{a:α}{b:β}{c:γ}{d:δ}:a=a∧b=b∧c=c∧d=d:=⟨rfl,rfl,rfl,rfl⟩
theorem Z3{α β γ:Type}{a:α}{b:β}{c:γ}:a=a∧b=b∧c=c:=⟨rfl,rfl,rfl⟩
theorem wF{P:Program}{e:En}{ops:Array Oper}{rest:List Oper}{env:Env}{st:List AO}{R:Env→List AO→Prop}{o:Oper}{d:Nat}{f:FuncId}{c:Call}{x:Operand}{first caps asz:List AV}{ds:List D}{y:D}(a:o.op= .call c∧c.callee= .value x∧opv env x=some (.fn (.func f) first caps)∧bw env c.args.toList=some asz)(hc:Pu P f ds y)(hl:Les (first++asz++caps) (ds.map .d))
  (b:o.guard=none∧o.dst=some d∧Nat.ble (d+1) e.n=true)(h:WL P e ops rest ((d, .d y)::env) st R):WL P e ops (o::rest) env st R:=WL.fn a.1 a.2.1 a.2.2.1 a.2.2.2 hc hl (Wt.none b.1) b.2.1 b.2.2 h
theorem sS{P:Program}{e:En}{ops:Array Oper}{rest:List Oper}{env:Env}{st:List AO}{R:Env→List AO→Prop}{T:TypeId}{x y:Operand}{id off n:Nat}{T':TypeId}{cs:List AV}{r:AV}{rs:List AV}{ty:TypeId}{pos:String}{after:Array Edge}(a:opv env x=some (.pt id off)∧st[id]? =some (.row T' cs)∧opv env y=some r∧r.okc=true∧r.cells=rs∧rs.all AV.ok1=true)
  (hn:a9 P T=some n)(b:rs.length=n∧Nat.ble (off+n) cs.length=true)(h:WL P e ops rest env (st.set id (.row T' (cs.take off++rs++cs.drop (off+n)))) R):WL P e ops (⟨none, .store T x y,ty,pos,after,none⟩::rest) env st R:=
 WL.s0 (sD a.1 a.2.1 a.2.2.1 a.2.2.2.1 a.2.2.2.2.1 a.2.2.2.2.2 hn b.1 b.2) (Wt.none rfl) rfl h
section
variable{P:Program}{e:En}{ops:Array Oper}{l:List Oper}{st:List AO}{env env0 env1:Env}{R:Env→List AO→Prop}
theorem Nn{t d:Nat}{b z:Bool}(n:Nat)(h1:env1=env1.take n++((t, .d (.v (.bool b)))::env0):=by exact rfl)(h2:e7 (env1.take n) env0=true:=by exact rfl)(h3:Env.get (env1.take n) d=some (.d (.v (.bool z))):=by exact rfl):WL P e ops [] env1 st (λenv' st'=>st'=st∧GrpJ env0 t b d z env'):=WL.nil ⟨rfl,env1.take n,h1,h2,h3⟩
theorem Rn [T:Tys P]{t d:Nat}{b z:Bool}(k n:Nat)(h:gt T.t e.n ops st k l env=some ([],env1):=by exact rfl)(h1:env1=env1.take n++((t, .d (.v (.bool b)))::env0):=by exact rfl)(h2:e7 (env1.take n) env0=true:=by exact rfl)(h3:Env.get (env1.take n) d=some (.d (.v (.bool z))):=by exact rfl):WL P e ops l env st (λenv' st'=>st'=st∧GrpJ env0 t b d z env'):=Rl k h (Nn n h1 h2 h3)
theorem On [T:Tys P]{t d:Nat}{b z z':Bool}(k n:Nat)(hz:some z'=some z)(h:gt T.t e.n ops st k l env=some ([],env1):=by exact rfl)(h1:env1=env1.take n++((t, .d (.v (.bool b)))::env0):=by exact rfl)(h2:e7 (env1.take n) env0=true:=by exact rfl)(h3:Env.get (env1.take n) d=some (.d (.v (.bool z'))):=by exact rfl):WL P e ops l env st (λenv' st'=>st'=st∧GrpJ env0 t b d z env'):=Rn k n h h1 h2 (h3.trans (by rw[inS hz]))
theorem AG [T:Tys P]{env2:Env}(k t d a n:Nat){x y:Bool}(hr:WL P e ops (l.drop k) ((d, .d (.v (.bool (x&&y))))::env) st R)(hx:env.get t=some (.d (.v (.bool x))):=by exact rfl)(h:gt T.t e.n ops st a (l.take k) ((t, .d (.v (.bool true)))::env)=some ([],env1):=by exact rfl)(h1:env1=env1.take n++((t, .d (.v (.bool true)))::env):=by exact rfl)(h2:e7 (env1.take n) env=true:=by exact rfl)(h3:Env.get (env1.take n) d=some (.d (.v (.bool y))):=by exact rfl)
  (g:gt T.t e.n ops st a (l.take k) ((t, .d (.v (.bool false)))::env)=some ([],env2):=by exact rfl)(g1:env2=env2.take n++((t, .d (.v (.bool false)))::env):=by exact rfl)(g2:e7 (env2.take n) env=true:=by exact rfl)(g3:Env.get (env2.take n) d=some (.d (.v (.bool false))):=by exact rfl):WL P e ops l env st R:=WL.and k hx (λ_=>Rn a n h h1 h2 h3) (Rn a n g g1 g2 g3) hr
theorem OG [T:Tys P]{env2:Env}(k t d a n:Nat){x y:Bool}(hr:WL P e ops (l.drop k) ((d, .d (.v (.bool (x||y))))::env) st R)(hx:env.get t=some (.d (.v (.bool x))):=by exact rfl)(h:gt T.t e.n ops st a (l.take k) ((t, .d (.v (.bool false)))::env)=some ([],env1):=by exact rfl)(h1:env1=env1.take n++((t, .d (.v (.bool false)))::env):=by exact rfl)(h2:e7 (env1.take n) env=true:=by exact rfl)(h3:Env.get (env1.take n) d=some (.d (.v (.bool y))):=by exact rfl)
  (g:gt T.t e.n ops st a (l.take k) ((t, .d (.v (.bool true)))::env)=some ([],env2):=by exact rfl)(g1:env2=env2.take n++((t, .d (.v (.bool true)))::env):=by exact rfl)(g2:e7 (env2.take n) env=true:=by exact rfl)(g3:Env.get (env2.take n) d=some (.d (.v (.bool true))):=by exact rfl):WL P e ops l env st R:=WL.or k hx (λ_=>Rn a n h h1 h2 h3) (Rn a n g g1 g2 g3) hr
theorem Gg(k t d:Nat)(z:Bool){x:Bool}{β:Type}{a b w:β}(hb:(bif x then a else b)=w)(h1:a=w→WL P e ops (l.take k) ((t, .d (.v (.bool true)))::env) st λenv' st'=>st'=st∧GrpJ env t true d z env')(h0:b=w→WL P e ops (l.take k) ((t, .d (.v (.bool false)))::env) st λenv' st'=>st'=st∧GrpJ env t false d z env')
  (hr:WL P e ops (l.drop k) ((d, .d (.v (.bool z)))::env) st R)(hx:env.get t=some (.d (.v (.bool x))):=by exact rfl):WL P e ops l env st R:=WL.grp k hx (λhh=>h1 (cX hb hh)) (λhh=>h0 (cY hb hh)) hr
end
theorem fI{P:Program}{f:FuncId}{fn:Func}{c:Code}{asz:List D}{x:D}{n:Nat}(hf:P.funcs[f]? =some fn)(h:∀φ w,WC P ⟨[],φ,w,n,none,none⟩ c (.fin fn (λr' st'=>r'= .d x∧st'=[])) (d7 0 (asz.map .d)) [])(h1:(fn.name== "runtime.NumGoroutine")=false:=by kernel_rfl)
  (h2:fn.body=some c:=by exact rfl)(h3:fn.ntmps=n:=by exact rfl)(h4:Nat.ble (asz.map AV.d).length n=true:=by exact rfl):Pu P f asz x:=qF hf h1 h2 h3 h4 h
theorem cI{P:Program}{f:FuncId}{fn:Func}{c:Code}{asz:List AV}{st:List AO}{Q:AV→List AO→Prop}{n:Nat}(hf:P.funcs[f]? =some fn)(h:∀m φ w,m.length=st.length→WC P ⟨m,φ,w,n,none,none⟩ c (.fin fn Q) (d7 0 asz) st)(h1:(fn.name== "runtime.NumGoroutine")=false:=by kernel_rfl)
  (h2:fn.body=some c:=by exact rfl)(h3:fn.ntmps=n:=by exact rfl)(h4:Nat.ble asz.length n=true:=by exact rfl):Ctr P f asz st Q:=hU hf h1 h2 h3 h4 h
end Go.Sk
