/-
  (The layer sk5.) What is ours, looked at asz data for the length of a call: slices of our own, with slices of our own in them.
-/
import Derived.Test.YtiigiagchaibdaaGreatDoorT
import Derived.Test.YtiigiagchaibdaaGreatDoorEa
set_option linter.unusedVariables false
set_option linter.unusedSimpArgs false
set_option linter.unusedSectionVars false
set_option linter.unnecessarySimpa false
namespace Go.Sk
open Go.RowKit (Below)
def unN:D→D
 | .v (.slice none 0 0)=> .sl []
 |x=>x
theorem uR{φ:Nat→Nat}{w:World}{x:D}{v:Value}(h:RD φ w x v):RD φ w (unN x) v:=by
 unfold unN
 split
 ·have:=Le.nil [] φ w v (by simpa[RA] using h)
  simpa[RA] using this
 ·exact h
def bU(f:AV→Option D):List AV→Option (List D)
 |[]=>some []
 |x::l=>match f x,bU f l with|some d,some ds=>some (d::ds)|_,_=>none
def gi(f:AV→Option D):List (List AV)→Option (List (List D))
 |[]=>some []
 |x::l=>match bU f x,gi f l with|some d,some ds=>some (d::ds)|_,_=>none
def eV(st:List AO):Nat→AV→Option D
 |0,_=>none
 |n+1,x=>match x with
  | .d x=>some (unN x)
  | .ag ps=>(bU (eV st n) ps).map .ag
  | .os id ver=>match st[id]? with
   |some (.os _ _ ver' es)=>bif Nat.beq ver ver' then(gi (eV st n) es).map .sl else none
   |_=>none
  | .ow id ver off len lo=>match st[id]? with
   |some (.os _ k ver' es)=>bif Nat.beq ver ver'&&(Nat.beq off (lo*k)&&Nat.ble (lo+len) es.length) then(gi (eV st n) ((es.drop lo).take len)).map .sl else none
   |_=>none
  |_=>none
theorem dU{m φ w}{φ':Nat→Nat}{f:AV→Option D}(hf:∀x v d,RA m φ w x v→f x=some d→RD φ' w d v):∀{xs:List AV}{vs:List Value}{ds:List D},RAs m φ w xs vs→bU f xs=some ds→RFs φ' w ds vs
 |[],vs,ds,h,hv=>by
  simp only[bU,aa] at hv
  subst hv
  simpa[RAs,RFs] using h
 |x::xs,vs,ds,h,hv=>by
  simp only[RAs] at h
  obtain⟨c,cs,rfl,h1,h2⟩:=h
  simp only[bU] at hv
  split at hv
  ·rename_i d ds' e1 e2
   simp only[aa] at hv
   subst hv
   simp only[RFs]
   exact⟨c,cs,rfl,hf _ _ _ h1 e1,dU hf h2 e2⟩
  ·cases hv
theorem jy{f:AV→Option D}:∀{xs:List AV}{ds:List D},bU f xs=some ds→ds.length=xs.length
 |[],ds,hv=>by simp only[bU,aa] at hv;subst hv;rfl
 |x::xs,ds,hv=>by
  simp only[bU] at hv
  split at hv
  ·rename_i d ds' e1 e2
   simp only[aa] at hv
   subst hv
   simp[jy e2]
  ·cases hv
theorem jz{f:AV→Option D}:∀{xs ys:List AV}{ds es:List D},bU f xs=some ds→bU f ys=some es→bU f (xs++ys)=some (ds++es)
 |[],ys,ds,es,h,k=>by simp only[bU,aa] at h;subst h;exact k
 |x::xs,ys,ds,es,h,k=>by
  simp only[bU] at h
  split at h
  ·rename_i d ds' e1 e2
   simp only[aa] at h
   subst h
   simp only[List.cons_append,bU,e1,jz e2 k]
  ·cases h
theorem gh{f:AV→Option D}{k:Nat}:∀{es:List (List AV)}{ds:List (List D)},gi f es=some ds→(∀e∈es,e.length=k)→bU f es.flatten=some ds.flatten∧ds.length=es.length∧∀e∈ds,e.length=k
 |[],ds,hv,_=>by simp only[gi,aa] at hv;subst hv;exact⟨rfl,rfl,λe he=>by cases he⟩
 |x::xs,ds,hv,hk=>by
  simp only[gi] at hv
  split at hv
  ·rename_i d ds' e1 e2
   simp only[aa] at hv
   subst hv
   obtain⟨h1,h2,h3⟩:=gh e2 (λe he=>hk e (List.mem_cons_of_mem _ he))
   refine⟨by rw[List.flatten_cons,List.flatten_cons];exact jz e1 h1,by simp[h2],λe he=>?_⟩
   rcases List.mem_cons.1 he with rfl|he
   ·rw[jy e1];exact hk x List.mem_cons_self
   ·exact h3 e he
  ·cases hv
theorem kE{φ:Nat→Nat}{w:World}:Fz φ w (aA w) w:=λ_ _ _ _ h=>⟨cell_lt' (db h),h⟩
where
 cell_lt' {w:World} {b off:Nat} {c:Value} (h:w.cell? ⟨b,off,none⟩=some c):off<aA w b:=by
  unfold World.cell? at h
  unfold aA
  split at h
  ·rename_i cs t fr hh
   simp only at hh
   rw[hh]
   simp only[Option.isSome_none,Bool.false_eq_true,if_false] at h
   exact(Array.getElem?_eq_some_iff.1 h).1
  ·cases h
theorem nl{m φ st w}(hs:SR m φ st w):∀(n:Nat)(x:AV)(v:Value)(d:D),RA m φ w x v→eV st n x=some d→RD (aA w) w d v
 |0,x,v,d,_,hv=>by simp[eV] at hv
 |n+1,x,v,d,h,hv=>by
  have ih:=nl hs n
  cases x with
  |d x=>
   simp only[eV,aa] at hv
   subst hv
   simp only[RA] at h
   exact uR (RD.mono kE _ _ h)
  |ag ps=>
   simp only[eV,Option.map_eq_some_iff] at hv
   obtain⟨ds,h1,rfl⟩:=hv
   simp only[RA] at h
   obtain⟨cs,rfl,h2⟩:=h
   simp only[RD]
   exact⟨cs,rfl,dU ih h2 h1⟩
  |os id ver=>
   simp only[eV] at hv
   split at hv
   ·rename_i T k ver' es hi
    cases hb:Nat.beq ver ver' with
    |false=>rw[hb] at hv;cases hv
    |true=>
     rw[hb,cdT,Option.map_eq_some_iff] at hv
     obtain⟨ds,hd,rfl⟩:=hv
     have hver:=nbE hb
     subst hver
     simp only[RA] at h
     obtain⟨v0,y0,g1,g2,g3⟩:=h
     obtain⟨y',xs,e1,h1,h2,h3,h4⟩:=hs.obj id _ _ hi g1
     simp only[Cz.tok.injEq] at e1
     obtain⟨rfl,rfl⟩:=e1
     have hy:=g3 rfl
     subst hy
     obtain⟨f1,f2,f3⟩:=gh hd h3
     have h2':RFs (aA w) w ds.flatten xs:=dU ih h2 f1
     simp only[RD]
     rw[←f2] at h1
     rcases h1.2 with⟨rfl,hn⟩|⟨g,cap,cur,rfl,_,hg,hnc,_,_,_⟩
     ·exact .inl ⟨List.eq_nil_of_length_eq_zero hn,none,0,rfl,λ_=>rfl⟩
     ·refine .inr ⟨g,0,k,cap,rfl,hnc,f3,cQ f3 h2' λj v hj=>?_⟩
      have:=eY h1 hj
      rw[Nat.zero_add]
      exact⟨kE.cell_lt' (db this),this⟩
   ·cases hv
  |ow id ver off len lo=>
   simp only[eV] at hv
   split at hv
   ·rename_i T k ver' es hi
    cases hb:(Nat.beq ver ver'&&(Nat.beq off (lo*k)&&Nat.ble (lo+len) es.length)) with
    |false=>rw[hb] at hv;cases hv
    |true=>
     rw[hb,cdT,Option.map_eq_some_iff] at hv
     obtain⟨ds,hd,rfl⟩:=hv
     rw[Bool.and_eq_true,Bool.and_eq_true] at hb
     obtain⟨hb1,hb2,hb3⟩:=hb
     have hver:=nbE hb1
     have hoff:=nbE hb2
     have hfit:=nbT hb3
     subst hver;subst hoff
     obtain⟨y,xs,g1,h1,h2,h3,h4,h5⟩:=dt hs Piece.ow h hi
     have h3':∀e∈(es.drop lo).take len,e.length=k:=λe he=>h3 e (List.mem_of_mem_drop (List.mem_of_mem_take he))
     obtain⟨f1,f2,f3⟩:=gh hd h3'
     have hfl:((es.drop lo).take len).flatten=(es.flatten.drop (lo*k)).take (len*k):=by
      rw[cu _ _ (λe he=>h3 e (List.mem_of_mem_drop he)),di _ _ h3]
     have h2':RAs m φ w ((es.drop lo).take len).flatten ((xs.drop (lo*k)).take (len*k)):=by
      rw[hfl];exact aV _ (aZ _ h2)
     have h2'':RFs (aA w) w ds.flatten ((xs.drop (lo*k)).take (len*k)):=dU ih h2' f1
     have hlen:ds.length=len:=by rw[f2,List.length_take,List.length_drop];omega
     have hxl:=h1.1
     simp only[RD]
     rcases h5 with⟨_,rfl,rfl⟩|⟨b,nn,cap,off',rfl,rfl,ho⟩
     ·exact .inl ⟨List.eq_nil_of_length_eq_zero hlen,none,0,rfl,λ_=>rfl⟩
     ·by_cases h0:len=0
      ·subst h0
       exact .inl ⟨List.eq_nil_of_length_eq_zero hlen,_,_,rfl,λh=>by cases h⟩
      ·have ho2:off'=lo*k:=ho.resolve_right h0
       subst ho2
       have hcap:nn=es.length∧nn≤cap:=by
        rcases h1.2 with⟨e1,_⟩|⟨g,cap',cur,e1,_,_,hnc,_,_,_⟩
        ·cases e1
        ·simp only[Value.slice.injEq] at e1;obtain⟨_,rfl,rfl⟩:=e1;exact⟨rfl,hnc⟩
       refine .inr ⟨b,lo*k,k,cap - lo,by rw[hlen],oM,f3,cQ f3 h2'' λj v hj=>?_⟩
       have hj2:xs[lo*k+j]? =some v:=by
        rw[List.getElem?_take] at hj
        split at hj
        ·rw[List.getElem?_drop] at hj;exact hj
        ·cases hj
       have:=eY h1 hj2
       exact⟨kE.cell_lt' (db this),this⟩
   ·cases hv
  |_=>simp[eV] at hv
section
variable{P:Program}{e:En}{ops:Array Oper}{o:Oper}{rest:List Oper}{env:Env}{st:List AO}{R:Env→List AO→Prop}{d:Nat}
theorem oR{f:FuncId}{m φ w}{asz:List AV}{vs:List Value}{ds:List D}{y:D}{val:Value}(n:Nat)(hc:Pu P f ds y)(hg:y.gnd=some val)(hs:SR m φ st w)(ha:RAs m φ w asz vs)(hv:bU (eV st n) asz=some ds):
  Calls P f ⟨vs⟩ w λen w'=>en= .returned val∧Below w.heap.size w w':=by
 have h1:RFs (aA w) w ds vs:=dU (nl hs n) ha hv
 have hsr:SR [] (aA w) [] w:=lu w (hs.gl.mono kE)
 refine(hc.2 [] (aA w) w vs hsr (a9 h1)).mono ?_
 rintro en w' ⟨v,r,st',m',φ',rfl,⟨rfl,rfl⟩,hev,_,hra⟩
 have hv2:=rB (by simpa[RA] using hra) hg
 subst hv2
 exact⟨rfl,hev.os,hev.tape,hev.output,hev.size,λb hb=>(hev.keep b hb (by simp[In])).1⟩
end
theorem pX{P:Program}{f:FuncId}{asz:List AV}{st:List AO}{ds:List D}{y:D}{val:Value}(n:Nat)(hc:Pu P f ds y)(hg:y.gnd=some val)(hv:bU (eV st n) asz=some ds):Ctr P f asz st (λr' s'=>r'= .d y∧s'=st):=
 ⟨hc.1,λm φ w vs hs ha=>(oR n hc hg hs ha hv).mono λen w' h=>⟨val, .d y,st,m,φ,h.1,⟨rfl,rfl⟩,Ev.of_below hs h.2,hs.of_below h.2,by simpa[RA] using qO hg⟩⟩
def knV:List (FuncId×List D×D)→ap
 |[],_,_,_=>none
 |(g,ds,y)::tab,f,asz,st=>bif Nat.beq g f&&(y.gnd.isSome&&(match bU (eV st 100) asz with
  |some ds'=>eqDs ds' ds
  |none=>false)) then some (.d y,st) else knV tab f asz st
theorem qN{P:Program}:∀{tab:List (FuncId×List D×D)},(∀p∈tab,Pu P p.1 p.2.1 p.2.2)→aE P (knV tab)
 |[],_,f,asz,st,r,st',h=>by cases h
 |(g,ds,y)::tab,ht,f,asz,st,r,st',h=>by
  unfold knV at h
  cases hb:(Nat.beq g f&&(y.gnd.isSome&&(match bU (eV st 100) asz with
   |some ds'=>eqDs ds' ds
   |none=>false))) with
  |false=>rw[hb] at h;exact qN (λp hp=>ht p (List.mem_cons_of_mem _ hp)) f asz st r st' h
  |true=>
   rw[hb] at h
   simp only[cdT,aa,Prod.mk.injEq] at h
   obtain⟨rfl,rfl⟩:=h
   rw[Bool.and_eq_true,Bool.and_eq_true] at hb
   obtain⟨h1,h2,h3⟩:=hb
   have e:=nbE h1
   subst e
   obtain⟨val,hval⟩:=Option.isSome_iff_exists.1 h2
   split at h3
   ·rename_i ds' hv
    have:=eqDs_ok h3
    subst this
    exact pX 100 (ht _ List.mem_cons_self) hval hv
   ·cases h3
def orX(a b:ap):ap:=λf asz st=>match a f asz st with
 |some r=>some r
 |none=>b f asz st
theorem gt{P:Program}{a b:ap}(ha:aE P a)(hb:aE P b):aE P (orX a b):=λf asz st r st' h=>by
 unfold orX at h
 split at h
 ·rename_i h1
  obtain rfl:=inS h
  exact ha _ _ _ _ _ h1
 ·exact hb _ _ _ _ _ h
theorem gr{P:Program}{f:FuncId}{asz:List D}{r:D}{st':List AO}(h:Ctr P f (asz.map .d) [] λr' s'=>r'= .d r∧s'=st'):Pu P f asz r:=by
 refine⟨h.1,λm φ w vs hs ha=>(h.2 m φ w vs hs ha).mono ?_⟩
 rintro en w' ⟨v,r',s',m',φ',rfl,⟨rfl,rfl⟩,hev,hsr,hra⟩
 have hm:m=[]:=List.eq_nil_of_length_eq_zero hs.len
 subst hm
 exact⟨v,_,[],[],φ',rfl,⟨rfl,rfl⟩,⟨Pre.refl _,λ_ h=> .inl h,hev.os,hev.tape,hev.output,hev.size,hev.keep,hev.fz⟩,hsr.nil,by simpa[RA] using hra⟩
def lR(L:List (Nat×Nat)):bM:=λo env st=>match o.op,o.dst with
 | .slice T x _ _ _,some d=>bif L.any (λp=>Nat.beq p.1 T&&Nat.beq p.2 d) then(match opv env x with
  |some (.os id v)=>o7 (vC st 64 (.os id v)) env st
  |_=>none) else none
 |_,_=>none
theorem iV(L:List (Nat×Nat)):c9 (lR L):=λe o env st env' st' h=>by
 unfold lR at h
 split at h
 ·obtain⟨_,h⟩:=ay h
  split at h
  ·exact kF h
  ·cases h
 ·cases h
section
variable{P:Program}{e:En}{ops:Array Oper}{rest:List Oper}{env:Env}{st:List AO}{R:Env→List AO→Prop}{ty:TypeId}{pos:String}{after:Array Edge}{guard:Option (Nat×Bool)}{d:Nat}
theorem pu{T T' E k:Nat}{x:Operand}{xr:AV}{fs:List (List AV)}(hT:P.underlying T=some (.slice E))(hx:opv env x=some xr)(hs:Src st xr k fs)
  (hw:Wt ops env ⟨some d, .binOp .eql T x (.const (.slice none 0 0)) T',ty,pos,after,guard⟩ true)(hd:Nat.ble (d+1) e.n=true)(h:∀b:Bool,(b=true→fs=[])→WL P e ops rest ((d, .d (.v (.bool b)))::env) st R):
  WL P e ops (⟨some d, .binOp .eql T x (.const (.slice none 0 0)) T',ty,pos,after,guard⟩::rest) env st R:=λm φ a w hi=>by
 obtain⟨news,_,_,h3⟩:=hs m φ w _ hi.sr (af hi.env hx)
 rcases h3 with⟨hv,h0⟩|⟨ad,c,hv,_⟩
 ·exact jL hT hi hv hw hd (h true λ_=>List.eq_nil_of_length_eq_zero h0)
 ·exact jL hT hi hv hw hd (h false λhb=>by cases hb)
end
theorem p7{m φ st w}{T k v:Nat}(hs:SR m φ st w):Ev m φ w (m++ [.tok v (.slice none 0 0)]) φ w∧SR (m++ [.tok v (.slice none 0 0)]) φ (st++ [.os T k v []]) w:=by
 have hnew:∀b,(Cz.tok v (.slice none 0 0)).has b→w.heap.size≤b:=λb hb=>by simp[Cz.has,Value.ownBlock] at hb
 refine⟨Ev.push hs (Fz.refl φ w) (λ_ _=>rfl) (Nat.le_refl _) rfl rfl rfl hnew,SR.push hs (Fz.refl φ w) (λ_ _=>rfl) (Nat.le_refl _) ?_ hnew⟩
 exact⟨_,[],rfl,World.ownsRow_nil w 0 T k,by simp[RAs],sM,λb hb=>by simp[Value.ownBlock] at hb⟩
section
variable{P:Program}{e:En}{env:Env}{st:List AO}{K:Ko}
theorem Inv.nil_osV{m φ a w}{t T k v:Nat}(hi:Inv e m φ env st a w)(ht:env.get t=some (.d (.v (.slice none 0 0)))):∃m',Inv e m' φ ((t, .os st.length v)::env) (st++ [.os T k v []]) a w:=by
 obtain⟨h1,h2⟩:=p7 (T:=T) (k:=k) (v:=v) hi.sr
 have h3:=hi.go h1 h2
 refine⟨_,h3.sr,h3.ev,⟨λs x hx=>?_,h3.env.gl⟩,h3.sz,h3.df⟩
 unfold Env.get at hx
 cases hb:Nat.beq s t with
 |true=>
  rw[hb] at hx
  simp only[cdT,aa] at hx
  subst hx
  have:s=t:=nbE hb
  subst this
  obtain⟨u,g1,g2⟩:=hi.env s _ ht
  simp only[RA,RD] at g2
  subst g2
  refine⟨_,g1,?_⟩
  simp only[RA]
  exact⟨v,_,by rw[←hi.sr.len];simp,Nat.le_refl _,λ_=>rfl⟩
 |false=>rw[hb] at hx;exact h3.env s x hx
theorem WE.nil_osV{x:Exit}(t T k v:Nat)(ht:env.get t=some (.d (.v (.slice none 0 0))))(h:WE P e x K ((t, .os st.length v)::env) (st++ [.os T k v []])):WE P e x K env st:=λ_m φ a w hi=>
 let ⟨m',hi'⟩:=hi.nil_osV (T:=T) (k:=k) (v:=v) ht
 h m' φ a w hi'
end
def iQ:bM:=λ_ _ _=>none
theorem eu:c9 iQ:=λ_ _ _ _ _ _ h=>by cases h
def fL:ap:=λ_ _ _=>none
theorem dI{P:Program}:aE P fL:=λ_ _ _ _ _ h=>by cases h
def vV(P:Program)[PC P](t:Ty)(fn:Func)(x:AV)(st:List AO):Option (AV×List AO):=
 match fn.body,fn.results.toList with
 |some (.seq (.region _ a0 false) (.seq (.seq (.region _ a1 false) (.cond (.tmp c) (.seq (.region _ a2 false) .ret) .skip)) rest)),[.tmp q]=>(match a1.toList with
  |[o1,⟨some c', .binOp .eql T y (.const (.slice none 0 0)) _,_,_,_,none⟩]=>bif Nat.beq c c'&&(!(fn.name== "runtime.NumGoroutine")&&(Nat.ble 1 fn.ntmps&&(Nat.ble (c+1) fn.ntmps&&(av a0.toList&&(av a1.toList&&av a2.toList))))) then
   (match exL P t fn.ntmps fL du iQ a0 a0.toList [(0,x)] st with
   |some (env1,st1)=>(match exE P t fn.ntmps fL du a1 env1 st1 o1 with
    |some (env2,st2)=>(match P.underlying T,opv env2 y,bW P T with
     |some (.slice _),some xr,some (e,k,_)=>(match rY st2 k xr with
      |some fs=>(match exC P t fn.ntmps fL du true iQ 100 rest ((c, .d (.v (.bool false)))::env2) st2 with
       |some (.ret,env3,st3)=>(match env3.get q with
        |some (.os id v)=>(match fs with
         |[]=>(match exL P t fn.ntmps fL du iQ a2 a2.toList ((c, .d (.v (.bool true)))::env2) st2 with
          |some (env4,st4)=>(match env4.get q with
           |some (.d (.v (.slice none 0 0)))=>bif Nat.beq id st4.length&&dv st3 (st4++ [.os e k v []]) then some (.os id v,st3) else none
           |_=>none)
          |none=>none)
         |_=>some (.os id v,st3))
        |_=>none)
       |_=>none)
      |none=>none)
     |_,_,_=>none)
    |none=>none)
   |none=>none) else none
  |_=>none)
 |_,_=>none
theorem qf{P:Program}{fn:Func}{env:Env}{st:List AO}{q:Nat}{r:AV}(hL:fn.results.toList=[.tmp q])(h:env.get q=some r):Res P fn env st r:=
 fC (by rw[hL];exact h)
theorem qj{t:Nat}{x:AV}{env:Env}:opv ((t,x)::env) (.tmp t)=some x:=by
 show(bif Nat.beq t t then some x else env.get t)=some x
 rw[Nat.beq_refl,cdT]
theorem sc{t:Nat}{x:AV}{env:Env}:Env.get ((t,x)::env) t=some x:=qj
theorem t6{P:Program}[PC P]{t:Ty}(ht:t.ok P=true){f:FuncId}{fn:Func}(hf:P.funcs[f]? =some fn){x r:AV}{st st':List AO}(h:vV P t fn x st=some (r,st')):Ctr P f [x] st (λr' s'=>r'=r∧s'=st'):=by
 unfold vV at h
 split at h
 ·rename_i i0 a0 i1 a1 c i2 a2 rest q hb hL
  split at h
  ·rename_i o1 c' T y T' ty pos after ha1
   obtain⟨l1⟩:=a1
   simp only at ha1
   subst ha1
   have hh:=ay h
   clear h
   obtain⟨hq,h⟩:=hh
   simp only[Bool.and_eq_true,Bool.not_eq_true'] at hq
   obtain⟨q1,q2,q3,q4,q5,q6,q7⟩:=hq
   have q1:=nbE q1
   split at h
   ·rename_i env1 st1 hx1
    split at h
    ·rename_i env2 st2 hx2
     split at h
     ·rename_i E xr e k _ hT hy he
      split at h
      ·rename_i fs hfs
       split at h
       ·rename_i env3 st3 hx3
        split at h
        ·rename_i id v hr
         have hst:st'=st3∧r= .os id v:=by
          split at h
          ·split at h
           ·split at h
            ·obtain⟨_,h⟩:=ay h
             simp only[aa,Prod.mk.injEq] at h
             exact⟨h.2.symm,h.1.symm⟩
            ·cases h
           ·cases h
          ·simp only[aa,Prod.mk.injEq] at h
           exact⟨h.2.symm,h.1.symm⟩
         obtain⟨rfl,rfl⟩:=hst
         refine eC hf q2 hb rfl q3 λm φ w _=>?_
         refine cT (dn (l:=a0.toList) (gC (e:=⟨m,φ,w,fn.ntmps,none,none⟩) ht dI bi eu rfl hx1 (dE (cT (cT (dn (l:=_::_::[]) ?_ q6))))) q5)
         refine m4 (e:=⟨m,φ,w,fn.ntmps,none,none⟩) ht dI bi rfl hx2 (pu hT hy (nz hfs) (Wt.none rfl) (by rw[←q1];exact q4) λb hbb=>WL.nil (dE (ef (t:=b) (by rw[←q1];exact qj) (λh1=>?_) λh0=>?_)))
         ·subst h1
          obtain rfl:=hbb rfl
          simp only at h
          split at h
          ·rename_i env4 st4 hx4
           split at h
           ·rename_i hr4
            obtain⟨h5,_⟩:=ay h
            rw[Bool.and_eq_true] at h5
            have h6:=nbE h5.1
            have h7:=cX h5.2
            subst h6
            rw[←q1] at*
            exact cT (dn (l:=a2.toList) (gC (e:=⟨m,φ,w,fn.ntmps,none,none⟩) ht dI bi eu rfl hx4 (dE (mH (dD (WE.nil_osV q e k v hr4 (al (qf hL sc) ⟨rfl,h7.symm⟩)))))) q7)
           ·cases h
          ·cases h
         ·subst h0
          rw[←q1]
          exact ke (dE ((b7 (e:=⟨m,φ,w,fn.ntmps,none,none⟩) ht dI bi (λ_=>⟨rfl,rfl⟩) eu rfl 100).1 _ _ _ _ _ _ _ hx3 (al (qf hL hr) ⟨rfl,rfl⟩)))
        ·cases h
       ·cases h
      ·cases h
     ·cases h
    ·cases h
   ·cases h
  ·cases h
 ·cases h
def vW(P:Program)[PC P](t:Ty)(fT:FuncId→Option Func)(L:List FuncId):ap:=λf asz st=>bif L.any (Nat.beq f) then(match asz with
 |[.d (.v _)]=>none
 |[x]=>(match fT f with
  |some fn=>vV P t fn x st
  |none=>none)
 |_=>none) else none
theorem t7{P:Program}[PC P]{t:Ty}(ht:t.ok P=true){fT:FuncId→Option Func}(hT:∀f fn,fT f=some fn→P.funcs[f]? =some fn){L:List FuncId}:aE P (vW P t fT L):=λf asz st r st' h=>by
 unfold vW at h
 obtain⟨_,h⟩:=ay h
 split at h
 ·cases h
 ·split at h
  ·rename_i hf
   exact t6 ht (hT _ _ hf) h
  ·cases h
 ·cases h
def dfO:List Oper→Option (List Oper×Operand)
 |[⟨none, .defer ⟨.value x,asz,ts⟩,_,_,_,none⟩]=>(match asz.toList,ts.toList with
  |[],[]=>some ([],x)
  |_,_=>none)
 |o::l=>(match dfO l with
  |some (l',x)=>some (o::l',x)
  |none=>none)
 |[]=>none
theorem rg:∀{xs l:List Oper}{x:Operand},dfO xs=some (l,x)→∃ty pos after,xs=l++ [⟨none, .defer ⟨.value x, #[], #[]⟩,ty,pos,after,none⟩]
 |[],l,x,h=>by cases h
 |o::xs,l,x,h=>by
  unfold dfO at h
  split at h
  ·rename_i he
   split at h
   ·rename_i h1 h2
    simp only[aa,Prod.mk.injEq] at h
    obtain⟨rfl,rfl⟩:=h
    rw[he]
    have e1:=Array.toList_inj.1 (h1.trans rfl:_=(#[]:Array Operand).toList)
    have e2:=Array.toList_inj.1 (h2.trans rfl:_=(#[]:Array TypeId).toList)
    rw[e1,e2]
    exact⟨_,_,_,rfl⟩
   ·cases h
  ·rename_i he
   simp only[List.cons.injEq] at he
   obtain⟨rfl,rfl⟩:=he
   split at h
   ·rename_i l' x' hl
    simp only[aa,Prod.mk.injEq] at h
    obtain⟨rfl,rfl⟩:=h
    obtain⟨ty,pos,after,e⟩:=rg hl
    exact⟨ty,pos,after,by rw[e];rfl⟩
   ·cases h
  ·rename_i he
   cases he
def tS(P:Program)[PC P](t:Ty)(nt:Nat)(call:ap)(hook:bM)(fuel:Nat):Nat→Code→Env→List AO→Option (Exit×Env×List AO×Option (FuncId×List AV))
 |0,_,_,_=>none
 |n+1,c,env,st=>match c with
  | .seq x y=>(match(match x with
   | .region _ a false=>(match dfO a.toList with
    |some (l,v)=>some (a,l,v)
    |none=>none)
   |_=>none) with
   |some (a,l,v)=>bif av l then(match exL P t nt call du hook a l env st with
    |some (env1,st1)=>(match opv env1 v with
     |some (.fn (.func f) [] caps)=>(match exC P t nt call du false hook fuel y env1 st1 with
      |some (z,env2,st2)=>some (z,env2,st2,some (f,caps))
      |none=>none)
     |_=>none)
    |none=>none) else none
   |none=>(match exC P t nt call du false hook fuel x env st with
    |some (.normal,env1,st1)=>tS P t nt call hook fuel n y env1 st1
    |some (.ret,env1,st1)=>some (.ret,env1,st1,none)
    |_=>none))
  |c=>(match exC P t nt call du false hook fuel c env st with
   |some (z,env1,st1)=>some (z,env1,st1,none)
   |none=>none)
theorem n6{P:Program}[PC P]{t:Ty}{nt:Nat}{call:ap}{hook:bM}{fuel:Nat}(ht:t.ok P=true)(hc:aE P call)(hh:c9 hook){m0:List Cz}{φ0:Nat→Nat}{w0:World}:∀{n:Nat}{c:Code}{env env':Env}{st st':List AO}{x:Exit}{df:Option (FuncId×List AV)}{κ:Ko},
  tS P t nt call hook fuel n c env st=some (x,env',st',df)→κ.plain=true→(df=none→WE P ⟨m0,φ0,w0,nt,none,some []⟩ x κ env' st')→
  (∀f caps,df=some (f,caps)→∀m φ w vs,RAs m φ w caps vs→WE P ⟨m,φ,w,nt,none,some [dfr f vs]⟩ x κ env' st')→WC P ⟨m0,φ0,w0,nt,none,some []⟩ c κ env st
 |0,_,_,_,_,_,_,_,_,h,_,_,_=>by cases h
 |n+1,c,env,env',st,st',x,df,κ,h,hk,h0,h1=>by
  have hT:∀{e:En},false=true→e.rd=none∧e.ds=none:=λh=>by cases h
  have plainC:∀{c:Code},(match exC P t nt call du false hook fuel c env st with
   |some (z,env1,st1)=>some (z,env1,st1,(none:Option (FuncId×List AV)))
   |none=>none)=some (x,env',st',df)→WC P ⟨m0,φ0,w0,nt,none,some []⟩ c κ env st:=λ{c} h=>by
   split at h
   ·rename_i hx
    simp only[aa,Prod.mk.injEq] at h
    obtain⟨rfl,rfl,rfl,rfl⟩:=h
    exact(b7 (e:=⟨m0,φ0,w0,nt,none,some []⟩) ht hc bi hT hh rfl fuel).1 _ _ _ _ _ _ _ hx (h0 rfl)
   ·cases h
  unfold tS at h
  split at h
  ·rename_i a b
   split at h
   ·rename_i ar l v hd
    have hh1:=ay h
    clear h
    obtain⟨hnd,h⟩:=hh1
    split at h
    ·rename_i env1 st1 hx1
     split at h
     ·rename_i f caps hv
      split at h
      ·rename_i z env2 st2 hx2
       simp only[aa,Prod.mk.injEq] at h
       obtain⟨rfl,rfl,rfl,rfl⟩:=h
       split at hd
       ·rename_i id ar'
        split at hd
        ·rename_i hdf
         simp only[aa,Prod.mk.injEq] at hd
         obtain⟨rfl,rfl,rfl⟩:=hd
         obtain⟨ty,pos,after,e⟩:=rg hdf
         obtain⟨xs⟩:=ar'
         refine cT (pW (l:=_) (x:=_) (f:=f) (caps:=caps) e hk hnd (gC (e:=⟨m0,φ0,w0,nt,none,some []⟩) ht hc bi hh rfl hx1 ⟨hv,λm φ w vs _ hr=>dE ?_⟩))
         exact(b7 (e:=⟨m,φ,w,nt,none,some [dfr f vs]⟩) ht hc bi hT hh rfl fuel).1 _ _ _ _ _ _ _ hx2 (h1 f caps rfl m φ w vs hr)
        ·cases hd
       ·cases hd
      ·cases h
     ·cases h
    ·cases h
   ·split at h
    ·rename_i env1 st1 hx
     exact cT ((b7 (e:=⟨m0,φ0,w0,nt,none,some []⟩) ht hc bi hT hh rfl fuel).1 _ _ _ _ _ _ _ hx (dE (n6 ht hc hh h hk h0 h1)))
    ·rename_i env1 st1 hx
     simp only[aa,Prod.mk.injEq] at h
     obtain⟨rfl,rfl,rfl,rfl⟩:=h
     exact cT ((b7 (e:=⟨m0,φ0,w0,nt,none,some []⟩) ht hc bi hT hh rfl fuel).1 _ _ _ _ _ _ _ hx (dD (h0 rfl)))
    ·cases h
  ·exact plainC h
def qX(P:Program)[PC P](t:Ty)(fT:FuncId→Option Func)(call:ap)(hook:bM)(fuel:Nat)(fn:Func)(asz:List AV)(st:List AO):Option (AV×List AO):=
 match fn.body with
 |some c=>bif !(fn.name== "runtime.NumGoroutine")&&Nat.ble asz.length fn.ntmps then(match tS P t fn.ntmps call hook fuel 100 c (bq 0 asz) st with
  |some (x,env',st',df)=>bif (match x with
   | .ret=>true
   | .normal=>true
   |_=>false) then(match df with
   |none=>(match oX P env' st' fn.results.toList with
    |some r=>some (r,st')
    |none=>none)
   |some (f,caps)=>(match fT f with
    |some fn'=>(match vL P t call hook fuel fn' caps st' with
     |some st2=>(match oX P env' st2 fn.results.toList with
      |some r=>some (r,st2)
      |none=>none)
     |none=>none)
    |none=>none)) else none
  |none=>none) else none
 |none=>none
theorem qW{P:Program}[PC P]{t:Ty}(ht:t.ok P=true){fT:FuncId→Option Func}(hT:∀f fn,fT f=some fn→P.funcs[f]? =some fn){call:ap}(hc:aE P call){hook:bM}(hh:c9 hook){fuel:Nat}{f:FuncId}{fn:Func}(hf:P.funcs[f]? =some fn){asz:List AV}{st st':List AO}{r:AV}(h:qX P t fT call hook fuel fn asz st=some (r,st')):Ctr P f asz st (λr' s'=>r'=r∧s'=st'):=by
 unfold qX at h
 split at h
 ·rename_i c hb
  have hh1:=ay h
  clear h
  obtain⟨hq,h⟩:=hh1
  rw[Bool.and_eq_true,Bool.not_eq_true'] at hq
  split at h
  ·rename_i x env1 st1 df hx
   have hh2:=ay h
   clear h
   obtain⟨hxr,h⟩:=hh2
   have ends:∀{e:En}{Q:AV→List AO→Prop},WE P e .ret (.fin fn Q) env1 st1→WE P e x (.fin fn Q) env1 st1:=λ{e Q} hE=>by
    split at hxr
    ·exact hE
    ·exact dG hE
    ·cases hxr
   refine m8 hf hq.1 hb rfl hq.2 λm φ w _=>n6 ht hc hh hx rfl (λhdf=>ends ?_) (λf caps hdf m φ w vs hr=>ends ?_)
   ·subst hdf
    simp only at h
    split at h
    ·rename_i r1 hr
     simp only[aa,Prod.mk.injEq] at h
     obtain⟨rfl,rfl⟩:=h
     exact al (fC hr) ⟨rfl,rfl⟩
    ·cases h
   ·subst hdf
    simp only at h
    split at h
    ·rename_i fn' hfn
     split at h
     ·rename_i st2 hd
      split at h
      ·rename_i r1 hr1
       simp only[aa,Prod.mk.injEq] at h
       obtain⟨rfl,rfl⟩:=h
       exact oP hr (tQ ht hc hh (hT _ _ hfn) hd) (fC hr1) ⟨rfl,rfl⟩
      ·cases h
     ·cases h
    ·cases h
  ·cases h
 ·cases h
def qQ{β:Type}(x:Nat)(k:Nat→β):β:=match x+1 with
 |0=>k 0
 |n+1=>k n
theorem o8{β:Type}{x:Nat}{k:Nat→β}:qQ x k=k x:=rfl
def o6{β:Type}:List Nat→Nat→(Nat→β)→β
 |x::_,0,k=>k x
 |_::l,n+1,k=>o6 l n k
 |[],_,k=>k 0
theorem fR{β:Type}:∀{l:List Nat}{n:Nat}{k:Nat→β},∃i,o6 l n k=k i
 |x::_,0,_=>⟨x,rfl⟩
 |_::l,n+1,_=>fR (l:=l) (n:=n)
 |[],_,_=>⟨0,rfl⟩
def r7{β:Type}(inv:List Nat)(x:AV)(k:AV→β):β:=match x with
 | .d y=>k (.d y)
 | .pt id off=>o6 inv id λi=>k (.pt i off)
 | .os id v=>o6 inv id λi=>k (.os i v)
 | .pe id v o=>o6 inv id λi=>k (.pe i v o)
 | .mp id=>o6 inv id λi=>k (.mp i)
 |x=>k (x.ren inv)
theorem nD{β:Type}{inv:List Nat}{x:AV}{k:AV→β}:∃y,r7 inv x k=k y:=by
 unfold r7
 split
 ·exact⟨_,rfl⟩
 ·exact(fR (k:=λi=>k (.pt i _))).imp' _ λ_ h=>h
 ·exact(fR (k:=λi=>k (.os i _))).imp' _ λ_ h=>h
 ·exact(fR (k:=λi=>k (.pe i _ _))).imp' _ λ_ h=>h
 ·exact(fR (k:=λi=>k (.mp i))).imp' _ λ_ h=>h
 ·exact⟨_,rfl⟩
def iE{β:Type}(inv:List Nat):List AV→(List AV→β)→β
 |[],k=>k []
 |x::l,k=>r7 inv x λy=>iE inv l λr=>k (y::r)
theorem fE{β:Type}{inv:List Nat}:∀{l:List AV}{k:List AV→β},∃r,iE inv l k=k r
 |[],_=>⟨[],rfl⟩
 |x::l,k=>by
  unfold iE
  obtain⟨y,h⟩:=nD (inv:=inv) (x:=x) (k:=λy=>iE inv l λr=>k (y::r))
  rw[h]
  obtain⟨r,h⟩:=fE (inv:=inv) (l:=l) (k:=λr=>k (y::r))
  exact⟨_,h⟩
def iD{β:Type}(inv:List Nat):List (List AV)→(List (List AV)→β)→β
 |[],k=>k []
 |x::l,k=>iE inv x λy=>iD inv l λr=>k (y::r)
theorem jE{β:Type}{inv:List Nat}:∀{l:List (List AV)}{k:List (List AV)→β},∃r,iD inv l k=k r
 |[],_=>⟨[],rfl⟩
 |x::l,k=>by
  unfold iD
  obtain⟨y,h⟩:=fE (inv:=inv) (l:=x) (k:=λy=>iD inv l λr=>k (y::r))
  rw[h]
  obtain⟨r,h⟩:=jE (inv:=inv) (l:=l) (k:=λr=>k (y::r))
  exact⟨_,h⟩
def lz{β:Type}(inv:List Nat)(o:AO)(k:AO→β):β:=match o with
 | .row T cs=>iE inv cs λcs'=>k (.row T cs')
 | .os T n v es=>iD inv es λes'=>k (.os T n v es')
 | .mb es xs c=>iE inv xs λxs'=>k (.mb es xs' c)
 |o=>k (o.ren inv)
theorem qm{β:Type}{inv:List Nat}{o:AO}{k:AO→β}:∃y,lz inv o k=k y:=by
 unfold lz
 split
 ·exact(fE (k:=λcs'=>k (.row _ cs'))).imp' _ λ_ h=>h
 ·exact(jE (k:=λes'=>k (.os _ _ _ es'))).imp' _ λ_ h=>h
 ·exact(fE (k:=λxs'=>k (.mb _ xs' _))).imp' _ λ_ h=>h
 ·exact⟨_,rfl⟩
def gU{β:Type}(inv:List Nat):Nat→List AO→(List AO→β)→β
 |_,[],k=>k []
 |n+1,o::l,k=>lz inv o λy=>gU inv n l λr=>k (y::r)
 |0, .dead::l,k=>gU inv 0 l k
 |0,o::l,k=>lz inv o λy=>gU inv 0 l λr=>k (y::r)
theorem qh{β:Type}{inv:List Nat}:∀{l:List AO}{n:Nat}{k:List AO→β},∃r,gU inv n l k=k r:=by
 intro l
 induction l with
 |nil=>intro n k;cases n<;>exact⟨[],rfl⟩
 |cons o l ih=>
  intro n k
  have step:∀n,∃r,(lz inv o λy=>gU inv n l λr=>k (y::r))=k r:=λn=>by
   obtain⟨y,h⟩:=qm (inv:=inv) (o:=o) (k:=λy=>gU inv n l λr=>k (y::r))
   rw[h]
   obtain⟨r,h⟩:=ih (n:=n) (k:=λr=>k (y::r))
   exact⟨_,h⟩
  cases n with
  |succ n=>exact step n
  |zero=>cases o<;>first|exact ih|exact step 0
def eb:Nat→List AO→List Nat
 |_,[]=> []
 |i, .dead::l=>eb (i+1) l
 |i,_::l=>i::eb (i+1) l
theorem jX:∀{l:List AO}{i x:Nat},x∈eb i l→i≤x:=by
 intro l
 induction l with
 |nil=>intro i x h;cases h
 |cons o l ih=>
  intro i x h
  have k:x∈i::eb (i+1) l→i≤x:=λh=>by
   rcases List.mem_cons.1 h with rfl|h
   ·exact Nat.le_refl _
   ·exact Nat.le_of_succ_le (ih h)
  cases o<;>first|exact k h|exact Nat.le_of_succ_le (ih h)
theorem kT:∀{l:List AO}{i:Nat},(eb i l).Nodup:=by
 intro l
 induction l with
 |nil=>intro i;exact List.nodup_nil
 |cons o l ih=>
  intro i
  have k:(i::eb (i+1) l).Nodup:=List.nodup_cons.2 ⟨λh=>by have:=jX h;omega,ih⟩
  cases o<;>first|exact k|exact ih
def tG:Nat→List AO→List Nat
 |_,[]=> []
 |p, .dead::l=>0::tG p l
 |p,_::l=>p::tG (p+1) l
def qo{β:Type}:List Nat→(List Nat→β)→β
 |[],k=>k []
 |x::l,k=>qQ x λy=>qo l λr=>k (y::r)
theorem kq{β:Type}:∀{l:List Nat}{k:List Nat→β},qo l k=k l
 |[],_=>rfl
 |x::l,k=>by unfold qo;rw[o8,kq]
def dh(J:List Nat):Nat→List Nat→List AO→List AO→Bool
 |_,[],_,[]=>true
 |i,j::js,o::st,o0::st0=>bif Nat.beq i j then(bif q8 (o0.ren J) o then dh J (i+1) js st st0 else false) else dh J (i+1) (j::js) st (o0::st0)
 |_,_,_,_=>false
theorem gw{J:List Nat}{full:List AO}:∀{st:List AO}{i:Nat}{js:List Nat}{st0:List AO},dh J i js st st0=true→st=full.drop i→iT js full (st0.map (AO.ren J))
 |_,_,[],[],_,_=>trivial
 |_,_,[],_::_,h,_=>by simp[dh] at h
 |[],_,_::_,[],h,_=>by simp[dh] at h
 |[],_,_::_,_::_,h,_=>by simp[dh] at h
 |_::_,_,_::_,[],h,_=>by simp[dh] at h
 |o::st,i,j::js,o0::st0,h,hf=>by
  have hf':st=full.drop (i+1):=by
   have:(o::st).drop 1=(full.drop i).drop 1:=by rw[hf]
   rw[List.drop_drop] at this
   simpa[Nat.add_comm] using this
  have ho:full[i]? =some o:=by
   have:(full.drop i)[0]? =some o:=by rw[←hf];rfl
   simpa using this
  unfold dh at h
  cases hij:Nat.beq i j with
  |true=>
   rw[hij,cdT] at h
   obtain rfl:=nbE hij
   cases he:q8 (o0.ren J) o with
   |false=>rw[he] at h;cases h
   |true=>
    rw[he,cdT] at h
    rw[List.map_cons]
    exact⟨by rw[ho,oc he],gw h hf'⟩
  |false=>
   rw[hij,cdF] at h
   exact gw (js:=j::js) (st0:=o0::st0) h hf'
def om(js:List Nat)(r:AV)(st:List AO)(r0:AV)(st0:List AO):AV×List AO:=
 bif ltq js.length r0&&(l7 (r0.ren js) r&&(jB js.length st0&&dh js 0 js st st0)) then(r0,st0) else(r,st)
def jT(n0:Nat)(r:AV)(st:List AO):AV×List AO:=
 qo (List.range n0++eb n0 (st.drop n0)) λjs=>bif Nat.beq js.length st.length then(r,st) else qo (List.range n0++tG n0 (st.drop n0)) λinv=>
  r7 inv r λr0=>gU inv n0 st λst0=>om js r st r0 st0
theorem rj{m m':List Cz}{φ φ':Nat→Nat}{w w':World}{n0:Nat}{st':List AO}{r:AV}{v:Value}(hl:m.length=n0)(hev:Ev m φ w m' φ' w')(hsr:SR m' φ' st' w')(hra:RA m' φ' w' r v):
  ∃m'',Ev m φ w m'' φ' w'∧SR m'' φ' (jT n0 r st').2 w'∧RA m'' φ' w' (jT n0 r st').1 v:=by
 unfold jT
 rw[kq]
 generalize hjs:List.range n0++eb n0 (st'.drop n0)=js
 cases Nat.beq js.length st'.length with
 |true=>exact⟨m',hev,hsr,hra⟩
 |false=>
 rw[cdF,kq]
 generalize List.range n0++tG n0 (st'.drop n0)=inv
 obtain⟨r0,h⟩:=nD (inv:=inv) (x:=r) (k:=λr0=>gU inv n0 st' λst0=>om js r st' r0 st0)
 rw[h]
 obtain⟨st0,h⟩:=qh (inv:=inv) (l:=st') (n:=n0) (k:=λst0=>om js r st' r0 st0)
 rw[h]
 unfold om
 cases hc:(ltq js.length r0&&(l7 (r0.ren js) r&&(jB js.length st0&&dh js 0 js st' st0))) with
 |false=>exact⟨m',hev,hsr,hra⟩
 |true=>
  simp only[Bool.and_eq_true] at hc
  obtain⟨c1,c2,c3,c4⟩:=hc
  have hnd:js.Nodup:=by
   rw[←hjs,List.nodup_append]
   exact⟨List.nodup_range,kT,λa ha b hb=>by have:=List.mem_range.1 ha;have:=jX hb;omega⟩
  have hfix:∀i,i<n0→js[i]? =some i:=λi hi=>by
   rw[←hjs,List.getElem?_append_left (by simpa using hi),List.getElem?_range hi]
  obtain⟨hW,hs2⟩:=hsr.window hnd (gw c4 rfl) (iz c3)
  generalize hm2:(js.map λj=>m'.getD j (.blk 0))=m2 at hW hs2
  have hl2:m2.length=js.length:=by simp[←hm2]
  have hr:=fV c2
  rw[←hr] at hra
  refine⟨m2,⟨λi c hi=>?_,λb ⟨i,c,h1,h2⟩=>?_,hev.os,hev.tape,hev.output,hev.size,hev.keep,hev.fz⟩,hs2,(RA.ren hW r0 v (qx c1)).1 hra⟩
  ·have hil:i<n0:=by rw[←hl];exact(giS.1 hi).1
   obtain⟨c',h1,h2⟩:=hev.pre i c hi
   exact⟨c',(hW i i (hfix i hil)).trans h1,h2⟩
  ·have hil:i<js.length:=by rw[←hl2];exact(giS.1 h1).1
   have:=hW i _ (geG hil)
   rw[h1] at this
   exact hev.new b ⟨_,c,this.symm,h2⟩
theorem pi{P:Program}{f:FuncId}{asz:List AV}{st st':List AO}{r:AV}(h:Ctr P f asz st λr' s'=>r'=r∧s'=st'):Ctr P f asz st (λr' s'=>r'=(jT st.length r st').1∧s'=(jT st.length r st').2):=by
 refine⟨h.1,λm φ w vs hs ha=>(h.2 m φ w vs hs ha).mono ?_⟩
 rintro en w' ⟨v,r',s',m',φ',he,⟨rfl,rfl⟩,hev,hsr,hra⟩
 obtain⟨m'',k1,k2,k3⟩:=rj hs.len hev hsr hra
 exact⟨v,_,_,m'',φ',he,⟨rfl,rfl⟩,k1,k2,k3⟩
def oZ(cL:List FuncId)(f:FuncId)(n0:Nat)(r:AV)(st:List AO):AV×List AO:=bif cL.any (Nat.beq f) then jT n0 r (jA n0 r st) else(r,jA n0 r st)
theorem l9{P:Program}{cL:List FuncId}{f:FuncId}{asz:List AV}{st st':List AO}{r:AV}(h:Ctr P f asz st λr' s'=>r'=r∧s'=st'):Ctr P f asz st (λr' s'=>r'=(oZ cL f st.length r st').1∧s'=(oZ cL f st.length r st').2):=by
 unfold oZ
 cases cL.any (Nat.beq f) with
 |true=>exact pi (jS h)
 |false=>exact jS h
def l4(P:Program)[PC P](t:Ty)(fT:FuncId→Option Func)(kn:ap)(hook:bM)(dL cL:List FuncId)(fuel:Nat):Nat→ap
 |0=>λ_ _ _=>none
 |n+1=>λf asz st=>match kn f asz st with
  |some r=>some r
  |none=>(match fT f with
   |some fn=>(match(bif dL.any (Nat.beq f) then qX P t fT (l4 P t fT kn hook dL cL fuel n) hook fuel fn asz st else vK P t (l4 P t fT kn hook dL cL fuel n) hook fuel fn asz st) with
    |some (r,st')=>some (oZ cL f st.length r st')
    |none=>none)
   |none=>none)
theorem eB{P:Program}[PC P]{t:Ty}(ht:t.ok P=true){fT:FuncId→Option Func}(hT:∀f fn,fT f=some fn→P.funcs[f]? =some fn){kn:ap}(hk:aE P kn){hook:bM}(hh:c9 hook){dL cL:List FuncId}{fuel:Nat}:∀n,aE P (l4 P t fT kn hook dL cL fuel n)
 |0=>λ_ _ _ _ _ h=>by cases h
 |n+1=>λf asz st r st' h=>by
  unfold l4 at h
  split at h
  ·rename_i hr
   obtain rfl:=inS h
   exact hk _ _ _ _ _ hr
  ·split at h
   ·rename_i fn hfn
    split at h
    ·rename_i r1 st1 hx
     have h:=inS h
     have e1:(oZ cL f st.length r1 st1).1=r:=by rw[h]
     have e2:(oZ cL f st.length r1 st1).2=st':=by rw[h]
     subst e1
     subst e2
     cases hd:dL.any (Nat.beq f) with
     |true=>
      rw[hd,cdT] at hx
      exact l9 (qW ht hT (eB ht hT hk hh n) hh (hT _ _ hfn) hx)
     |false=>
      rw[hd,cdF] at hx
      exact l9 (tP ht (eB ht hT hk hh n) hh (hT _ _ hfn) hx)
    ·cases h
   ·cases h
def knM:List (FuncId×List AV×List AO×AV×List AO)→ap
 |[],_,_,_=>none
 |(g,xs,s,r,s')::tab,f,asz,st=>bif Nat.beq g f&&(eqAVs asz xs&&dv st s) then some (r,s') else knM tab f asz st
theorem mV{P:Program}:∀{tab:List (FuncId×List AV×List AO×AV×List AO)},(∀p∈tab,Ctr P p.1 p.2.1 p.2.2.1 λr' s'=>r'=p.2.2.2.1∧s'=p.2.2.2.2)→aE P (knM tab)
 |[],_,f,asz,st,r,st',h=>by cases h
 |(g,xs,s,r0,s0)::tab,ht,f,asz,st,r,st',h=>by
  unfold knM at h
  cases hb:(Nat.beq g f&&(eqAVs asz xs&&dv st s)) with
  |false=>rw[hb] at h;exact mV (λp hp=>ht p (List.mem_cons_of_mem _ hp)) f asz st r st' h
  |true=>
   rw[hb] at h
   simp only[cdT,aa,Prod.mk.injEq] at h
   obtain⟨rfl,rfl⟩:=h
   rw[Bool.and_eq_true,Bool.and_eq_true] at hb
   have e:=nbE hb.1
   subst e
   rw[eqAVs_ok hb.2.1,cX hb.2.2]
   exact ht _ List.mem_cons_self
end Go.Sk
