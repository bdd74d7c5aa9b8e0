/-
  Cells of members of a family: pointers to them, loads, stores.
-/
import Derived.WideLaws
import Derived.RecoverIn
import Derived.Test.YtkbahggepncliaaGreatDoorSb
set_option linter.unusedVariables false
set_option linter.unusedSimpArgs false
set_option linter.unusedSectionVars false
set_option linter.unnecessarySimpa false
namespace Go.Sk
open Go.RowKit (Below)
section
variable{P:Program}{e:En}{ops:Array Oper}{l rest:List Oper}{K:Ko}{env:Env}{st:List AO}{R:Env→List AO→Prop}{dst:Option Tmp}{ty:TypeId}{pos:String}{after:Array Edge}{guard:Option (Nat×Bool)}
theorem ng{α:Type}{E:α→List D}{L:List (List α)}{M:List α}{m φ w}{x:Value}{fid j vf off T' k:Nat}(hs:SR m φ st w)(hx:RA m φ w (.pem fid j vf off) x)(hi:st[fid]? =some (.fam T' k vf (bc E L)))(hj:L[j]? =some M):
  ∃ys b len cap xs,m[fid]? =some (.fam vf ys)∧ys[j]? =some (.slice (some ⟨b,0,none⟩) len cap)∧x= .pointer (some ⟨b,off,none⟩)∧w.ownsRow 0 T' k (.slice (some ⟨b,0,none⟩) len cap) M.length xs∧RAs m φ w (M.map (aF E)).flatten xs∧(∀e∈M.map (aF E),e.length=k)∧φ b=0:=by
 simp only[RA] at hx
 obtain⟨v0,ys,h1,h2,h3⟩:=hx
 obtain⟨ys',h4,h5,h6,_⟩:=hs.obj _ _ _ hi h1
 simp only[Cz.fam.injEq] at h4
 obtain⟨rfl,rfl⟩:=h4
 obtain⟨b,len,cap,h7,rfl⟩:=h3 rfl
 have hess:(bc E L)[j]? =some (M.map (aF E)):=by simp[bc,hj]
 obtain⟨xs,g1,g2,g3,g4⟩:=h6 j _ _ hess h7
 rw[List.length_map] at g1
 exact⟨ys,b,len,cap,xs,h1,h7,rfl,g1,g2,g3,g4 b rfl⟩
theorem kO{α:Type}{E:α→List D}{L:List (List α)}{M:List α}{v:α}{T n:Nat}{bb:Bool}{x ix:Operand}{fid j vf T':Nat}{kk:IntKind}{i:Int}(hT:aL P T=some (n,bb))(hx:opv env x=some (.osf fid j vf))(hi:st[fid]? =some (.fam T' n vf (bc E L)))(hj:L[j]? =some M)(hix:opv env ix=some (.d (.v (.int kk i))))(hv:idx M i=some v):
  Yields P env st ⟨dst, .indexAddr T x ix,ty,pos,after,guard⟩ (.pem fid j vf (i.toNat*n)):=λm φ a w hs he=>by
 have h:=aA he hx
 simp only[RA] at h
 obtain⟨v0,ys,h1,h2,h3⟩:=h
 obtain⟨ys',h4,h5,h6,_⟩:=hs.obj _ _ _ hi h1
 simp only[Cz.fam.injEq] at h4
 obtain⟨rfl,rfl⟩:=h4
 have hy:=h3 rfl
 have hess:(bc E L)[j]? =some (M.map (aF E)):=by simp[bc,hj]
 obtain⟨xs,g1,_⟩:=h6 j _ _ hess hy
 rw[List.length_map] at g1
 have h0:=ae hv
 have hlt:=dw hv
 rcases g1.2 with⟨h,h'⟩|⟨g,cap,cur,h,_⟩
 ·omega
 ·refine⟨.pointer (some ⟨g,0+i.toNat*n,none⟩),by simp only[RA];exact⟨_,_,h1,Nat.le_refl _,λ_=>⟨g,_,cap,by rw[hy,h],sM⟩⟩,λw' _=>?_⟩
  simp[execOp,h,aN he hix,dt hT h0 hlt]
theorem n9{α:Type}{E:α→List D}{L:List (List α)}{M:List α}{v:α}{T:TypeId}{x:Operand}{fid j vf T' k:Nat}{i:Int}{r:AV}(hx:opv env x=some (.pem fid j vf (i.toNat*k)))(hi:st[fid]? =some (.fam T' k vf (bc E L)))(hj:L[j]? =some M)(hv:idx M i=some v)(hE:∀x,(E x).length=k)(hk0:0<k)(hr:(aF E v)[0]? =some r)(hT:aX P T=some false):
  Yields P env st ⟨dst, .load T x,ty,pos,after,guard⟩ r:=λm φ a w hs he=>by
 obtain⟨ys,b,len,cap,xs,h1,h2,h3,h4,h5,h6,h7⟩:=ng hs (aA he hx) hi hj
 have hL:M[i.toNat]? =some v:=bB hv
 obtain⟨l1,l2,f1,f2,_⟩:=ig (R:=E) hE hL
 have hfl:(M.map (aF E)).flatten[i.toNat*k]? =some r:=by
  rw[f1,←f2,List.append_assoc,List.getElem?_append_right (Nat.le_refl _),Nat.sub_self]
  have:0<(aF E v).length:=by rw[aF,List.length_map,hE];exact hk0
  rw[List.getElem?_append_left this];exact hr
 obtain⟨u,h8,h9⟩:=ce h5 hfl
 refine⟨u,h9,λw' hb=>?_⟩
 have hlt:=(h4.lt b rfl).2
 have hc:w'.cell? ⟨b,i.toNat*k,none⟩=some u:=by rw[aP (hb.block b hlt)];exact ff h4 h8
 simp[execOp,Instr.loadAt,Instr.sureAddr,h3,dr hT hc]
theorem so{m φ w}{fid:Nat}{T k ver j b len cap:Nat}{ess:List (List (List AV))}{es es':List (List AV)}{ys vs:List Value}(hs:SR m φ st w)(hi:st[fid]? =some (.fam T k ver ess))(hb:m[fid]? =some (.fam ver ys))(hyj:ys[j]? =some (.slice (some ⟨b,0,none⟩) len cap))(hej:ess[j]? =some es)
  (h:RAs m φ w es'.flatten vs)(hl:es'.length=es.length)(hk:∀e∈es',e.length=k)(cur:Array Value)(hcur:w.heap[b]? =some (.cells cur T (0,0)))(new:Array Value)(hsz:new.size=cur.size)(htk:new.toList.take (es.length*k)=vs):
  Ev m φ w m φ (w.setRow b new)∧SR m φ (st.set fid (.fam T k ver (ess.set j es'))) (w.setRow b new):=by
 obtain⟨ys',e1,e2,e3,e4⟩:=hs.obj fid _ _ hi hb
 simp only[Cz.fam.injEq,true_and] at e1
 subst e1
 obtain⟨xs,g1,g2,g3,g4⟩:=e3 j es _ hej hyj
 have h0:φ b=0:=g4 b rfl
 have hmem:(Cz.fam ver ys).has b:=⟨_,List.mem_of_getElem? hyj,rfl⟩
 have hF:Fz φ w φ (w.setRow b new):=λb2 off c q1 q2=>⟨q1,by
  have hne:b2≠b:=λe=>by subst e;omega
  rw[aP (br hne)];exact q2⟩
 have hsize:(w.setRow b new).heap.size=w.heap.size:=size_setRow w b _
 refine⟨⟨Pre.refl m,λ_ h=> .inl h,rfl,rfl,rfl,by rw[hsize];exact Nat.le_refl _,λb2 hb2 hn=>⟨br (λe=>hn ⟨fid,_,hb,by rw[e];exact hmem⟩),rfl⟩,hF⟩,⟨by simp[hs.len],λi o c q1 q2=>?_,λb2 hb2=>hs.lt b2 oM,λi1 j1 o o' c c' b2 q1 q2 l1 l2 k1 k2 e1 e2=>?_,hs.gl.mono hF,λb2 hb2=>by rw[hsize];exact hs.nb b2 hb2⟩⟩
 ·by_cases hii:i=fid
  ·subst hii
   rw[List.getElem?_set_self (du hi)] at q1
   rw[hb] at q2
   simp only[aq] at q1 q2
   subst q1;subst q2
   refine⟨ys,rfl,by simpa using e2,λj2 es2 y2 hj2 hy2=>?_,e4⟩
   by_cases hjj:j2=j
   ·subst hjj
    rw[List.getElem?_set_self (giS.1 hej).1] at hj2
    rw[hyj] at hy2
    simp only[aq] at hj2 hy2
    subst hj2;subst hy2
    refine⟨vs,?_,RAs.mono (Pre.refl m) hF _ _ h,hk,g4⟩
    obtain⟨r1,r2⟩:=g1
    have hvl:vs.length=es.length*k:=by
     have:=aC h
     rw[this]
     clear this h htk
     have:∀l:List (List AV),(∀e∈l,e.length=k)→l.flatten.length=l.length*k:=by
      intro l
      induction l with
      |nil=>simp
      |cons x l ih=>intro hh;simp only[List.flatten_cons,List.length_append,List.length_cons,ih (λe he=>hh e (by simp[he])),hh x sM,Nat.succ_mul];omega
     rw[this es' hk,hl]
    rcases r2 with⟨hv,_⟩|⟨g,cap',cur',hv,p1,p2,p3,p4,p5,p6⟩
    ·cases hv
    ·simp only[Value.slice.injEq,aq,Addr.mk.injEq,and_true] at hv
     obtain⟨rfl,rfl,rfl⟩:=hv
     rw[hcur] at p2
     simp only[aq,Obj.cells.injEq,and_true] at p2
     subst p2
     rw[hl]
     exact⟨hvl, .inr ⟨b,cap,new,rfl,p1,setRow_heap w b _ _ T (0,0) hcur,p3,p4,by rw[hsz];exact p5,htk⟩⟩
   ·rw[List.getElem?_set_ne (Ne.symm hjj)] at hj2
    obtain⟨xs2,t1,t2,t3,t4⟩:=e3 j2 es2 y2 hj2 hy2
    exact⟨xs2,eL t1 (λb2 hb2=>br (λe=>by subst e;exact hjj (e4 j2 j y2 _ b2 hy2 hyj hb2 rfl))),RAs.mono (Pre.refl m) hF _ _ t2,t3,t4⟩
  ·rw[List.getElem?_set_ne (Ne.symm hii)] at q1
   have h:=hs.obj i o c q1 q2
   cases hl:o.live with
   |true=>
    refine h.congr (Pre.refl m) hF (λb2 hb2=>⟨br λe=>?_,rfl⟩)
    subst e
    exact hii (hs.inj i fid o _ c _ b2 q1 hi hl rfl q2 hb hb2 hmem)
   |false=>cases o<;>first|trivial|exact h|(simp[AO.live] at hl;done)
 ·have back:∀(i:Nat)(o:AO),(st.set fid (.fam T k ver (ess.set j es')))[i]? =some o→o.live=true→∃o2,st[i]? =some o2∧o2.live=true:=by
   intro i o g l
   by_cases hii:i=fid
   ·subst hii;exact⟨_,hi,rfl⟩
   ·rw[List.getElem?_set_ne (Ne.symm hii)] at g;exact⟨o,g,l⟩
  obtain⟨p,p1,p2⟩:=back i1 o q1 l1
  obtain⟨q,u1,u2⟩:=back j1 o' q2 l2
  exact hs.inj i1 j1 p q c c' b2 p1 u1 p2 u2 k1 k2 e1 e2
theorem nE{α:Type}{E:α→List D}{L:List (List α)}{M:List α}{v z:α}{T:TypeId}{x y:Operand}{fid j vf T' k:Nat}{i:Int}{r0:AV}(hx:opv env x=some (.pem fid j vf (i.toNat*k)))(hi:st[fid]? =some (.fam T' k vf (bc E L)))(hj:L[j]? =some M)(hv:idx M i=some v)(hE:∀x,(E x).length=k)(hy:opv env y=some r0)(hk:r0.okc=true)(hc:Les r0.cells (aF E z))(hk1:(aF E z).all AV.ok1=true)(hn:bz P T=some k):
  gA P env st ⟨dst, .store T x y,ty,pos,after,guard⟩ (.d (.v undef)) (st.set fid (.fam T' k vf (bc E (L.set j (M.set i.toNat z))))):=λm φ a w hs he=>by
 obtain⟨ys,b,len,cap,xs,h1,h2,h3,g3,g4,h6,h7⟩:=ng hs (aA he hx) hi hj
 obtain⟨us,q1,q2⟩:=bi (aA he hy) hk
 have q2:=hc.ras q2
 have hul:=aC q2
 have hxl:=aC g4
 have hL:M[i.toNat]? =some v:=bB hv
 obtain⟨l1,l2,f1,f2,f3⟩:=ig (R:=E) hE hL
 have hze:(aF E z).length=k:=by rw[aF,List.length_map,hE]
 have hve:(aF E v).length=k:=by rw[aF,List.length_map,hE]
 have hnl:(M.map (aF E)).flatten.length=M.length*k:=ny hE M
 obtain⟨r1,r2⟩:=g3
 rcases r2 with⟨hv',_⟩|⟨g,cap',cur,hv',p1,p2,p3,p4,p5,p6⟩
 ·cases hv'
 simp only[Value.slice.injEq,aq,Addr.mk.injEq,and_true] at hv'
 obtain⟨rfl,rfl,rfl⟩:=hv'
 have hoff:i.toNat*k+k≤M.length*k:=by
  have:i.toNat+1≤M.length:=(giS.1 hL).1
  calc i.toNat*k+k=(i.toNat+1)*k:=by rw[Nat.succ_mul]
   _≤M.length*k:=Nat.mul_le_mul_right _ this
 have hcl:M.length*k≤cur.size:=by rw[p5];exact Nat.mul_le_mul_right _ p3
 have hst:=run_storeCells_at P b (i.toNat*k) T' us 0 cur w p2 oM (iu q2 hk1)
 simp only[Nat.add_zero,hul,hze] at hst
 have hsize:us.length=k:=oM
 have hes:((M.set i.toNat z).map (aF E)).flatten=(M.map (aF E)).flatten.take (i.toNat*k)++aF E z++(M.map (aF E)).flatten.drop (i.toNat*k+k):=by
  rw[f3 z,f1,←f2]
  have:(l1++aF E v++l2).drop (l1.length+k)=l2:=by
   rw[show l1.length+k=(l1++aF E v).length by rw[List.length_append,hve],List.drop_left]
  have ht:(l1++aF E v++l2).take l1.length=l1:=by rw[List.append_assoc,List.take_left]
  rw[this,ht]
 have hnew:RAs m φ w ((M.set i.toNat z).map (aF E)).flatten (xs.take (i.toNat*k)++us++xs.drop (i.toNat*k+k)):=by rw[hes];exact aD (aD (cC _ g4) q2) (cD _ g4)
 have htk:((cur.toList.take (i.toNat*k)++us++cur.toList.drop (i.toNat*k+k)).toArray.toList).take ((M.map (aF E)).length*k)=xs.take (i.toNat*k)++us++xs.drop (i.toNat*k+k):=by
  rw[List.length_map,←p6]
  generalize i.toNat*k=off at*
  apply List.ext_getElem?
  intro j
  have hcz:cur.toList.length=cur.size:=sM
  simp only[List.getElem?_take,List.getElem?_append,List.length_append,List.length_take,List.getElem?_drop,hsize,hcz]
  rw[Nat.min_eq_left (show off≤cur.size by omega),Nat.min_eq_left (show M.length*k≤cur.size by omega),Nat.min_eq_left (show off≤M.length*k by omega)]
  by_cases h1:j<M.length*k
  ·rw[if_pos h1]
   by_cases h2:j<off+k
   ·rw[if_pos h2,if_pos h2]
    by_cases h3:j<off
    ·simp only[if_pos h3,if_pos h1]
    ·simp only[if_neg h3]
   ·rw[if_neg h2,if_neg h2]
    have:off+k+(j - (off+k))=j:=oM
    rw[this,if_pos h1]
  ·rw[if_neg h1,if_neg (show¬j<off+k by omega)]
   have:off+k+(j - (off+k))=j:=oM
   rw[this,if_neg h1]
 have hej:(bc E L)[j]? =some (M.map (aF E)):=by simp[bc,hj]
 obtain⟨k1,k2⟩:=so hs hi h1 h2 hej hnew sM (λe he=>by
  obtain⟨q,_,rfl⟩:=List.mem_map.1 he
  rw[aF,List.length_map,hE]) cur p2 (cur.toList.take (i.toNat*k)++us++cur.toList.drop (i.toNat*k+k)).toArray (by simp[hsize];omega) htk
 have hfam:(bc E L).set j ((M.set i.toNat z).map (aF E))=bc E (L.set j (M.set i.toNat z)):=by simp[bc,List.map_set]
 rw[hfam] at k2
 refine⟨undef,_,m,φ, .inr ⟨?_,rfl⟩,k1,k2,RAv⟩
 simp[execOp,Instr.storeAt,Instr.sureAddr,h3,storeVar,q1,aT hn,hsize,hst]
theorem o7{α:Type}{E:α→List D}{L:List (List α)}{m φ a w}{x:Operand}{fid j vf off T k:Nat}(hs:SR m φ st w)(he:EnvOk m φ w env a)(hx:opv env x=some (.pem fid j vf off))(hi:st[fid]? =some (.fam T k vf (bc E L))):∃p,a.eval x= .pointer (some p):=by
 have h:=aA he hx
 simp only[RA] at h
 obtain⟨v0,ys,h1,_,h3⟩:=h
 obtain⟨ys',h4,_⟩:=hs.obj _ _ _ hi h1
 simp only[Cz.fam.injEq] at h4
 obtain⟨b,_,_,_,h5⟩:=h3 h4.1.symm
 exact⟨_,h5⟩
theorem qx{α:Type}{E:α→List D}{L:List (List α)}{x:Operand}{fid j vf off Te k:Nat}{T T' T2:TypeId}(hT:P.underlying T=some (.pointer T2))(hx:opv env x=some (.pem fid j vf off))(hi:st[fid]? =some (.fam Te k vf (bc E L))):Yields P env st ⟨dst, .binOp .eql T x (.const (.pointer none)) T',ty,pos,after,guard⟩ (.d (.v (.bool false))):=λm φ a w hs he=>by
 obtain⟨p,h2⟩:=o7 hs he hx hi
 refine⟨_,RAv,λw' _=>?_⟩
 have hp:P.pointee T=T2:=by simp[Program.pointee,hT]
 have hc:a.eval (.const (.pointer none))= .pointer none:=rfl
 simp[execOp,h2,hc,eqGuard,binOp,run_equal_pointer_nil w' T _ (by rw[hp];exact hT)]
theorem iX{α:Type}{E:α→List D}{L:List (List α)}{x:Operand}{fid j vf off Te k:Nat}(hx:opv env x=some (.pem fid j vf off))(hi:st[fid]? =some (.fam Te k vf (bc E L))):Yields P env st ⟨dst, .nilCheck x,ty,pos,after,guard⟩ (.pem fid j vf off):=λm φ a w hs he=>by
 obtain⟨p,h2⟩:=o7 hs he hx hi
 refine⟨_,aA he hx,λw' _=>?_⟩
 simp[execOp,h2]
end
end Go.Sk
namespace Go.Sk
open Go.RowKit (Below)
section
variable{P:Program}{env:Env}{st:List AO}{dst:Option Tmp}{ty:TypeId}{pos:String}{after:Array Edge}{guard:Option (Nat×Bool)}
theorem se{x:Operand}{t T T':TypeId}{p:D}(hT:P.underlying T=some (.interface (P.methodsAt T)))(hx:opv env x=some (.d (.ifc t p))):Yields P env st ⟨dst, .binOp .eql T x (.const .nilIface) T',ty,pos,after,guard⟩ (.d (.v (.bool false))):=λm φ a w _ he=>by
 have h:=aA he hx
 simp only[RA,RD] at h
 obtain⟨z,h,_⟩:=h
 refine⟨_,RAv,λw' _=>?_⟩
 have hc:a.eval (.const .nilIface)= .nilIface:=rfl
 simp[execOp,h,hc,eqGuard,run_eql_held_nil w' T t z hT]
theorem sd{x:Operand}{T T':TypeId}(hT:P.underlying T=some (.interface (P.methodsAt T)))(hx:opv env x=some (.d (.v .nilIface))):Yields P env st ⟨dst, .binOp .eql T x (.const .nilIface) T',ty,pos,after,guard⟩ (.d (.v (.bool true))):=λm φ a w _ he=>by
 have h:=aA he hx
 simp only[RA,RD] at h
 refine⟨_,RAv,λw' _=>?_⟩
 have hc:a.eval (.const .nilIface)= .nilIface:=rfl
 simp[execOp,h,hc,eqGuard,binOp,run_equal_nil_nil w' T hT]
def te(P:Program)(t:TypeId):Bool:=match P.underlying t with
 |some (.interface _)=>false
 |some _=>true
 |none=>false
theorem pK{x:Operand}{t T:TypeId}{p:D}(hA:te P t=true)(hx:opv env x=some (.d (.ifc t p))):Yields P env st ⟨dst, .typeAssert x T t true,ty,pos,after,guard⟩ (.tu [.d p, .d (.v (.bool true))]):=λm φ a w _ he=>by
 have h:=aA he hx
 simp only[RA,RD] at h
 obtain⟨z,h,hz⟩:=h
 refine⟨.tuple #[z, .bool true],?_,λw' _=>?_⟩
 ·simp only[RA];exact⟨[z, .bool true],rfl,aK (by simp only[RA];exact hz) (aK RAv bZ)⟩
 ·unfold te at hA
  split at hA
  ·cases hA
  ·rename_i dA hd hu
   cases dA<;>first|exact(hd _ rfl).elim|simp[execOp,h,Instr.typeAssert,run_underlying hu]
  ·cases hA
end
theorem sJ{m φ w}{t:TypeId}{p:D}{v:Value}(h:D.gnd p=some v):RA m φ w (.d (.ifc t p)) (.iface t v):=by
 simp only[RA,RD];exact⟨v,rfl,rk h⟩
theorem lg{P:Program}{f:FuncId}{fn:Func}{rest:Code}{id d n:Nat}{ty:TypeId}{pos:String}{after:Array Edge}{caps:List AV}{st st':List AO}{v:Value}{va:AV}{u u':FrameMode}(hf:P.funcs[f]? =some fn)(hname:(fn.name== "runtime.NumGoroutine")=false)
  (hb:fn.body=some (.seq (.region id #[⟨some d, .call ⟨.builtin .recover, #[], #[]⟩,ty,pos,after,none⟩] false) rest))(hres:fn.results= #[])(hn:fn.ntmps=n)(hle:Nat.ble caps.length n=true)(hd:Nat.ble (d+1) n=true)
  (hu:∀(c0:Frame)(cs:List Frame),c0.mode=u→(∃cs',recoverD (c0::cs)=some (v,cs')∧cs'={ c0 with mode:=u' }::cs)∨(recoverD (c0::cs)=none∧v= .nilIface∧u'=u))
  (hva:∀m φ w,RA m φ w va v)
  (h:∀m φ w,m.length=st.length→WC P ⟨m,φ,w,n,none,some []⟩ rest (.lp (λ_ st2=>SLe st2 st') (.rend λ_ _=>False)) ((d,va)::dX 0 caps) st):DSp P f caps st u u' st':=by
 refine⟨⟨fn,hf,hname,by simp[hb]⟩,λm φ w vs hs ha=>callsDIn_of_wpSIn hf hb trivial λc0 cs hu0=>?_⟩
 have hlen:=aC ha
 have hle:=nbT hle
 have hd:=nbT hd
 refine wpSIn_seq (wpSIn_region ?_)
 generalize hR:bodyPostS P fn c0 cs _=R
 have key:∀cs',cs'={ c0 with mode:=u' }::cs→rest.wpSIn (EF none) 0 P R (({ tmps:=(⟨vs⟩:Array Value)++Array.replicate (fn.ntmps - (⟨vs⟩:Array Value).size) undef,defers:=[] }:Act).put (some d) v) cs' w:=by
  intro cs' hcs
  refine wpSIn_of_wpIn rfl ?_
  have hinv:Inv ⟨m,φ,w,n,none,some []⟩ m φ ((d,va)::dX 0 caps) st (({ tmps:=(⟨vs⟩:Array Value)++Array.replicate (fn.ntmps - (⟨vs⟩:Array Value).size) undef,defers:=[] }:Act).put (some d) v) w:=by
   refine Inv.put (e:=⟨m,φ,w,n,none,some []⟩) ⟨hs,Ev.refl m φ w,⟨λt x hx=>?_,hs.gl⟩,?_,rfl⟩ hd (hva m φ w)
   ·rw[ed] at hx
    simp only[Nat.zero_le,if_true,Nat.sub_zero] at hx
    obtain⟨y,h1,h2⟩:=ce ha hx
    refine⟨y,?_,h2⟩
    have hlt:t<vs.length:=by
     rcases Nat.lt_or_ge t vs.length with h'|h'
     ·exact h'
     ·simp[List.getElem?_eq_none h'] at h1
    rw[Array.getElem?_append_left (by simpa using hlt)]
    simpa using h1
   ·simp[hn];omega
  refine wpIn_mono (h m φ w hs.len m φ _ w hinv) λx a' w' hx=>?_
  subst hR
  cases x with
  |normal=>
   obtain⟨env2,st2,m2,φ2,hst2,hi2⟩:=hx
   refine⟨hi2.df,u',hcs, .tuple #[],results_none hres _ _ _,⟨_,rfl⟩,rfl,m2,φ2,hi2.ev,hi2.sr.weak hst2⟩
  |_=>exact hx.elim
 have hexec:∀a:Act,(execOp a.eval (⟨some d, .call ⟨.builtin .recover, #[], #[]⟩,ty,pos,after,none⟩:Oper)).run P w= .ok .recover w:=λa=>by
  simp[execOp,resolve,invoke,builtin]
 show wpOpsSIn (EF none) 0 P _ _ [0] _ _ w
 unfold wpOpsSIn
 simp only[List.getElem?_toArray,List.getElem?_cons_zero]
 refine⟨λ_ _=>trivial,?_⟩
 rw[if_pos (by simp[Region.wanted]),hexec]
 rcases hu c0 cs hu0 with⟨cs',h1,h2⟩|⟨h1,h2,h3⟩
 ·simp only[h1]
  unfold wpOpsSIn
  exact key cs' h2
 ·simp only[h1]
  unfold wpOpsSIn
  subst h2
  refine key _ ?_
  subst h3
  rw[←hu0]
theorem s8{P:Program}{f:FuncId}{caps caps0:List AV}{st st0 st1 st':List AO}{u u':FrameMode}(js:List Nat)(h:DSp P f caps0 st0 u u' st1)(hl:Les caps (AV.rens js caps0))(hla:AV.lts js.length caps0=true)(hj:js.Nodup){st0' st1':List AO}(hren0:st0.map (AO.ren js)=st0')(hwin:fF js st st0')
  (hlt:dF js.length st0=true)(hlive:kn st0=true)(hlen:st1.length=st0.length)(hlt1:dF js.length st1=true)(hren1:st1.map (AO.ren js)=st1')(hst:bM js st1' st=st'):DSp P f caps st u u' st':=
 ⟨h.1,λm φ w vs hs ha=>by
  obtain⟨m0,g1,g2,g3⟩:=jE hs hj (by rw[hren0];exact hwin) hlt hlive
  refine(h.2 m0 φ w vs g1 (g2 _ _ hla (hl.ras ha))).mono ?_
  rintro en u2 w' ⟨h1,h2,m1,φ',hev,hsr⟩
  have htk:st1.take st0.length=st1:=by rw[←hlen,List.take_length]
  obtain⟨m',p1,p2,_⟩:=g3 st1 m1 φ' w' hev hsr oM (by rw[htk];exact hlt1)
  rw[htk,hren1,hst] at p2
  exact⟨h1,h2,m',φ',p1,p2⟩⟩
section
variable{P:Program}{fn:Func}{env:Env}{st st':List AO}{f:FuncId}{caps:List AV}{k:Nat}
theorem oq{S:AV→List AO→Prop}{m0 φ0 w0 n}{vs:List Value}{r r0:AV}{new:List AO}(hcap:RAs m0 φ0 w0 caps vs)(hD:DSp P f caps st .returning .returning st')(hr:Res P fn env st' r)(hl:Le r r0)(hk:Nat.ble k st'.length=true)(hs:SLe (st'.take k) new)(hS:S r0 new):
  WE P ⟨m0,φ0,w0,n,none,some [dfr f vs]⟩ .ret (.fin fn (cX k S)) env st:=λm φ a w hi=>by
 have hk:=nbT hk
 have hnl:new.length=k:=by rw[hs.length,List.length_take];omega
 have h:=pN (Q:=λr' st2=>r'=r0∧st2=st') hcap hD (hr.le hl) ⟨rfl,rfl⟩ m φ a w hi
 refine LeavesInM.mono (R:=cf ⟨m0,φ0,w0,n,none,some [dfr f vs]⟩ λr' st2=>r'=r0∧st2=st') ?_ _ _ _ h
 rintro en w' ⟨v,r',st2,m',φ',rfl,⟨rfl,rfl⟩,hev,hsr,hra⟩
 exact⟨v,r',_,m',φ',rfl,⟨by rw[List.length_append,hnl];omega,by rw[←hnl,List.take_left];exact hS⟩,hev,hsr.weak (fM k st2 new hs),hra⟩
theorem ot{S:AV→List AO→Prop}{m0 φ0 w0 n}{vs:List Value}{r r0:AV}{new:List AO}{c:List PanicEntry}{u':FrameMode}(hcap:RAs m0 φ0 w0 caps vs)(hD:DSp P f caps st (.panicking c) u' st')(hset:settle u'= .returning)(hr:Res P fn env st' r)(hl:Le r r0)(hk:Nat.ble k st'.length=true)(hs:SLe (st'.take k) new)(hS:S r0 new):
  WE P ⟨m0,φ0,w0,n,none,some [dfr f vs]⟩ (.panic c) (.fin fn (cX k S)) env st:=λm φ a w hi=>by
 have hk:=nbT hk
 have hnl:new.length=k:=by rw[hs.length,List.length_take];omega
 have h:=pO (Q:=λr' st2=>r'=r0∧st2=st') hcap hD hset (hr.le hl) ⟨rfl,rfl⟩ m φ a w hi
 refine LeavesInM.mono (R:=cf ⟨m0,φ0,w0,n,none,some [dfr f vs]⟩ λr' st2=>r'=r0∧st2=st') ?_ _ _ _ h
 rintro en w' ⟨v,r',st2,m',φ',rfl,⟨rfl,rfl⟩,hev,hsr,hra⟩
 exact⟨v,r',_,m',φ',rfl,⟨by rw[List.length_append,hnl];omega,by rw[←hnl,List.take_left];exact hS⟩,hev,hsr.weak (fM k st2 new hs),hra⟩
end
end Go.Sk
namespace Go.Sk
open Go.RowKit (Below)
section
variable{P:Program}{e:En}{ops:Array Oper}{rest:List Oper}{env:Env}{st:List AO}{R:Env→List AO→Prop}{ty:TypeId}{pos:String}{after:Array Edge}{guard:Option (Nat×Bool)}
theorem k9{T T' E d:Nat}{x:Operand}{m φ a w}(hT:P.underlying T=some (.slice E))(hi:Inv e m φ env st a w){ad:Option Addr}{ll cc:Nat}(h2:a.eval x= .slice ad ll cc)
  (hw:Wt ops env ⟨some d, .binOp .eql T x (.const (.slice none 0 0)) T',ty,pos,after,guard⟩ true)(hd:Nat.ble (d+1) e.n=true)(h:WL P e ops rest ((d, .d (.v (.bool ad.isNone)))::env) st R):
  cN P ops (jT e R) (⟨some d, .binOp .eql T x (.const (.slice none 0 0)) T',ty,pos,after,guard⟩::rest) a w:=by
 unfold cN
 rw[if_pos (hw _ _ _ _ hi.env)]
 refine .inl ?_
 have hrun:(execOp a.eval ⟨some d, .binOp .eql T x (.const (.slice none 0 0)) T',ty,pos,after,guard⟩).run P w= .ok (.value (.bool ad.isNone)) w:=by
  have hc:a.eval (.const (.slice none 0 0))= .slice none 0 0:=rfl
  simp[execOp,h2,hc,eqGuard,binOp,run_equal_slice_nil w T E ad ll cc hT]
 simp only[Oper.wp,hrun,Oper.upon]
 exact h m φ _ w (hi.put (nbT hd) RAv)
theorem ph{α:Type}{E:α→List D}{L:List (List α)}{M:List α}{m φ w}{x:Value}{fid j vf T' k:Nat}(hs:SR m φ st w)(hx:RA m φ w (.osf fid j vf) x)(hi:st[fid]? =some (.fam T' k vf (bc E L)))(hj:L[j]? =some M):
  ∃xs,w.ownsRow 0 T' k x M.length xs∧RAs m φ w (M.map (aF E)).flatten xs:=by
 simp only[RA] at hx
 obtain⟨v0,ys,h1,h2,h3⟩:=hx
 obtain⟨ys',h4,h5,h6,_⟩:=hs.obj _ _ _ hi h1
 simp only[Cz.fam.injEq] at h4
 obtain⟨rfl,rfl⟩:=h4
 have hess:(bc E L)[j]? =some (M.map (aF E)):=by simp[bc,hj]
 obtain⟨xs,g1,g2,_⟩:=h6 j _ _ hess (h3 rfl)
 rw[List.length_map] at g1
 exact⟨xs,g1,g2⟩
theorem qk{T T' E d:Nat}{x:Operand}{fid j vf Te k:Nat}{α:Type}{RR:α→List D}{L:List (List α)}{M:List α}(hT:P.underlying T=some (.slice E))(hx:opv env x=some (.osf fid j vf))(hs:st[fid]? =some (.fam Te k vf (bc RR L)))(hj:L[j]? =some M)
  (hw:Wt ops env ⟨some d, .binOp .eql T x (.const (.slice none 0 0)) T',ty,pos,after,guard⟩ true)(hd:Nat.ble (d+1) e.n=true)(h:∀b:Bool,(b=true→M=[])→WL P e ops rest ((d, .d (.v (.bool b)))::env) st R):
  WL P e ops (⟨some d, .binOp .eql T x (.const (.slice none 0 0)) T',ty,pos,after,guard⟩::rest) env st R:=λm φ a w hi=>by
 obtain⟨xs,h3,_⟩:=ph hi.sr (aA hi.env hx) hs hj
 rcases h3.2 with⟨h2,hn⟩|⟨g,cap,cur,h2,_⟩
 ·exact k9 hT hi h2 hw hd (h true (λ_=>List.eq_nil_of_length_eq_zero (by simpa using hn)))
 ·exact k9 hT hi h2 hw hd (h false λhb=>by cases hb)
theorem Src.mem{α:Type}{E:α→List D}{L:List (List α)}{M:List α}{fid j vf T' k:Nat}(hi:st[fid]? =some (.fam T' k vf (bc E L)))(hj:L[j]? =some M):Src st (.osf fid j vf) k (M.map (aF E)):=λm φ w v hs h=>by
 obtain⟨xs,h1,h2⟩:=ph hs h hi hj
 refine⟨xs,h2,by rw[List.length_map];exact h1.1,?_⟩
 rw[List.length_map]
 rcases h1.2 with⟨rfl,hn⟩|⟨g,cap,cur,rfl,_⟩
 ·exact .inl ⟨rfl,hn⟩
 ·exact .inr ⟨_,cap,rfl,λj u hj=>h1.cells (g:=g) rfl j u hj⟩
end
def rsvs(k:Nat)(st:List AO):Bool:=(List.range k).all λi=>match st[i]? with|some .rsv=>true|_=>false
theorem mZ{k:Nat}{st:List AO}(h:rsvs k st=true){i:Nat}(hi:i<k):st[i]? =some .rsv:=by
 have:=List.all_eq_true.1 h i (List.mem_range.2 hi)
 split at this
 ·assumption
 ·cases this
end Go.Sk
namespace Go.Sk
open Go.RowKit (Below)
def Cz.rv(t:Nat):Cz→Cz
 | .tok _ y=> .tok t y
 | .fam _ ys=> .fam t ys
 |c=>c
theorem gy{t:Nat}{c:Cz}{b:Nat}:(c.rv t).has b↔c.has b:=by cases c<;>exact Iff.rfl
mutual
def AV.rv(cur T:Nat→Nat):AV→AV
 | .d x=> .d x
 | .pt i o=> .pt i o
 | .os i v=>bif Nat.beq v (cur i) then .os i (T i) else .u
 | .osf i j v=>bif Nat.beq v (cur i) then .osf i j (T i) else .u
 | .tu l=> .tu (AV.rvs cur T l)
 |_=> .u
def AV.rvs(cur T:Nat→Nat):List AV→List AV
 |[]=> []
 |x::l=>AV.rv cur T x::AV.rvs cur T l
end
theorem kz(cur T:Nat→Nat):∀l:List AV,AV.rvs cur T l=l.map (AV.rv cur T)
 |[]=>rfl
 |x::l=>by rw[AV.rvs,kz cur T l];rfl
def AO.rv(cur T:Nat→Nat)(i:Nat):AO→AO
 | .row t cs=> .row t (cs.map (AV.rv cur T))
 | .os t k _ es=> .os t k (T i) (es.map λe=>e.map (AV.rv cur T))
 | .fam t k _ ess=> .fam t k (T i) (ess.map λes=>es.map λe=>e.map (AV.rv cur T))
 | .rsv=> .rsv
 |_=> .dead
def AO.curOk(cur:Nat→Nat)(i:Nat):AO→Prop
 | .os _ _ v _=>v=cur i
 | .fam _ _ v _=>v=cur i
 |_=>True
section
variable{m m3:List Cz}{φ:Nat→Nat}{w:World}{cur T:Nat→Nat}
mutual
theorem RA.rv(h3:∀(i:Nat)(c:Cz),m[i]? =some c→m3[i]? =some (c.rv (T i)))(hc:∀(i v:Nat)(y:Value),m[i]? =some (.tok v y)→v=cur i)(hf:∀(i v:Nat)(y:List Value),m[i]? =some (.fam v y)→v=cur i):∀(x:AV)(y:Value),RA m φ w x y→RA m3 φ w (x.rv cur T) y
 | .d x,y,h=>by simpa[RA,AV.rv] using h
 | .pt i o,y,h=>by
  simp only[RA,AV.rv] at h⊢
  obtain⟨b,h1,h2⟩:=h
  exact⟨b,h3 _ _ h1,h2⟩
 | .os i v,y,h=>by
  simp only[RA] at h
  obtain⟨v0,y0,h1,_,h2⟩:=h
  simp only[AV.rv]
  cases hb:Nat.beq v (cur i) with
  |false=>simp[RA]
  |true=>
   have hv:=nbE hb
   have:=hc i _ _ h1
   simp only[cdT,RA]
   exact⟨T i,y0,h3 _ _ h1,Nat.le_refl _,λ_=>h2 oM⟩
 | .osf i j v,y,h=>by
  simp only[RA] at h
  obtain⟨v0,y0,h1,_,h2⟩:=h
  simp only[AV.rv]
  cases hb:Nat.beq v (cur i) with
  |false=>simp[RA]
  |true=>
   have hv:=nbE hb
   have:=hf i _ _ h1
   simp only[cdT,RA]
   exact⟨T i,y0,h3 _ _ h1,Nat.le_refl _,λ_=>h2 oM⟩
 | .tu l,y,h=>by
  simp only[RA,AV.rv] at h⊢
  obtain⟨cs,h1,h2⟩:=h
  exact⟨cs,h1,RAs.rv h3 hc hf l cs h2⟩
 | .u,_,_=>by simp[AV.rv,RA]
 | .ag _,_,_=>by simp[AV.rv,RA]
 | .sr _ _ _ _,_,_=>by simp[AV.rv,RA]
 | .fn _ _ _,_,_=>by simp[AV.rv,RA]
 | .mp _,_,_=>by simp[AV.rv,RA]
 | .pe _ _ _,_,_=>by simp[AV.rv,RA]
 | .ow _ _ _ _ _,_,_=>by simp[AV.rv,RA]
 | .fs _,_,_=>by simp[AV.rv,RA]
 | .ifc _ _,_,_=>by simp[AV.rv,RA]
 | .pem _ _ _ _,_,_=>by simp[AV.rv,RA]
 | .yl _,_,_=>by simp[AV.rv,RA]
theorem RAs.rv(h3:∀(i:Nat)(c:Cz),m[i]? =some c→m3[i]? =some (c.rv (T i)))(hc:∀(i v:Nat)(y:Value),m[i]? =some (.tok v y)→v=cur i)(hf:∀(i v:Nat)(y:List Value),m[i]? =some (.fam v y)→v=cur i):∀(xs:List AV)(ys:List Value),RAs m φ w xs ys→RAs m3 φ w (AV.rvs cur T xs) ys
 |[],ys,h=>by simpa[RAs,AV.rvs] using h
 |x::xs,ys,h=>by
  simp only[RAs,AV.rvs] at h⊢
  obtain⟨c,cs,h1,h2,h4⟩:=h
  exact⟨c,cs,h1,RA.rv h3 hc hf x c h2,RAs.rv h3 hc hf xs cs h4⟩
end
theorem RAs.rvm(h3:∀(i:Nat)(c:Cz),m[i]? =some c→m3[i]? =some (c.rv (T i)))(hc:∀(i v:Nat)(y:Value),m[i]? =some (.tok v y)→v=cur i)(hf:∀(i v:Nat)(y:List Value),m[i]? =some (.fam v y)→v=cur i){xs:List AV}{ys:List Value}(h:RAs m φ w xs ys):RAs m3 φ w (xs.map (AV.rv cur T)) ys:=by
 rw[←kz];exact RAs.rv h3 hc hf xs ys h
theorem OR.rv(h3:∀(i:Nat)(c:Cz),m[i]? =some c→m3[i]? =some (c.rv (T i)))(hc:∀(i v:Nat)(y:Value),m[i]? =some (.tok v y)→v=cur i)(hf:∀(i v:Nat)(y:List Value),m[i]? =some (.fam v y)→v=cur i){i:Nat}{o:AO}{c:Cz}(h:OR m φ w o c):OR m3 φ w (o.rv cur T i) (c.rv (T i)):=by
 cases o with
 |row t cs=>
  obtain⟨b,rfl,h0,vs,h1,h2⟩:=h
  exact⟨b,rfl,h0,vs,h1,h2.rvm h3 hc hf⟩
 |os t k v es=>
  obtain⟨y,xs,rfl,h1,h2,h4,h5⟩:=h
  refine⟨y,xs,rfl,by rw[List.length_map];exact h1,?_,λe he=>?_,h5⟩
  ·rw[dx];exact h2.rvm h3 hc hf
  ·obtain⟨e',he',rfl⟩:=List.mem_map.1 he
   rw[List.length_map];exact h4 e' he'
 |fam t k v ess=>
  obtain⟨ys,rfl,h1,h2,h4⟩:=h
  refine⟨ys,rfl,by rw[List.length_map];exact h1,λj es y hj hy=>?_,h4⟩
  rw[List.getElem?_map] at hj
  cases hg:ess[j]? with
  |none=>rw[hg] at hj;cases hj
  |some es0=>
   rw[hg,Option.map_some,aq] at hj
   subst hj
   obtain⟨xs,g1,g2,g3,g4⟩:=h2 j es0 y hg hy
   refine⟨xs,by rw[List.length_map];exact g1,?_,λe he=>?_,g4⟩
   ·rw[dx];exact g2.rvm h3 hc hf
   ·obtain⟨e',he',rfl⟩:=List.mem_map.1 he
    rw[List.length_map];exact g3 e' he'
 |rsv=>simp only[OR] at h;subst h;rfl
 |_=>trivial
end
def eI(cur T:Nat→Nat):Nat→List AO→List AO
 |_,[]=> []
 |i,o::l=>o.rv cur T i::eI cur T (i+1) l
theorem jM{cur T:Nat→Nat}:∀{l:List AO}{k i:Nat},(eI cur T k l)[i]? =(l[i]?).map (AO.rv cur T (k+i))
 |[],k,i=>by simp[eI]
 |o::l,k,0=>by simp[eI]
 |o::l,k,i+1=>by simp only[eI,List.getElem?_cons_succ,jM (l:=l)];congr 2;omega
theorem gP{cur T:Nat→Nat}:∀{l:List AO}{k:Nat},(eI cur T k l).length=l.length
 |[],_=>rfl
 |o::l,k=>by simp[eI,gP (l:=l)]
def jl(T:Nat→Nat):Nat→List Cz→List Cz
 |_,[]=> []
 |i,c::l=>c.rv (T i)::jl T (i+1) l
theorem hY{T:Nat→Nat}:∀{l:List Cz}{k i:Nat},(jl T k l)[i]? =(l[i]?).map (λc=>c.rv (T (k+i)))
 |[],k,i=>by simp[jl]
 |o::l,k,0=>by simp[jl]
 |o::l,k,i+1=>by simp only[jl,List.getElem?_cons_succ,hY (l:=l)];congr 2;funext c;congr 1;congr 1;omega
theorem jN{T:Nat→Nat}:∀{l:List Cz}{k:Nat},(jl T k l).length=l.length
 |[],_=>rfl
 |o::l,k=>by simp[jl,jN (l:=l)]
theorem kA{cur T:Nat→Nat}{i:Nat}{o:AO}(h:(o.rv cur T i).live=true):o.live=true:=by cases o<;>first|rfl|exact h|(simp[AO.rv,AO.live] at h)
theorem SR.rv{m:List Cz}{φ w}{st:List AO}{cur T:Nat→Nat}(hs:SR m φ st w)(hcur:∀(i:Nat)(o:AO),st[i]? =some o→o.curOk cur i)(hall:∀o∈st,o≠ .dead∧(∀s p,o≠ .si s p)∧(∀a b c d,o≠ .lp a b c d)∧∀l,o≠ .mp l):
  SR (jl T 0 m) φ (eI cur T 0 st) w∧(∀x v,RA m φ w x v→RA (jl T 0 m) φ w (x.rv cur T) v):=by
 have h3:∀(i:Nat)(c:Cz),m[i]? =some c→(jl T 0 m)[i]? =some (c.rv (T i)):=λi c h=>by rw[hY,h];simp
 have hobj:∀(i:Nat)(c:Cz),m[i]? =some c→∃o,st[i]? =some o∧OR m φ w o c:=λi c h=>by
  have hi:i<st.length:=by rw[←hs.len];exact(giS.1 h).1
  exact⟨_,geG hi,hs.obj i _ c (geG hi) h⟩
 have hc:∀(i v:Nat)(y:Value),m[i]? =some (.tok v y)→v=cur i:=λi v y h=>by
  obtain⟨o,h1,h2⟩:=hobj i _ h
  have h4:=hcur i o h1
  have h5:=hall o (List.mem_of_getElem? h1)
  cases o with
  |os t k v' es=>obtain⟨y',_,h6,_⟩:=h2;simp only[Cz.tok.injEq] at h6;rw[h6.1];exact h4
  |row t cs=>obtain⟨b,h6,_⟩:=h2;cases h6
  |fam t k v' es=>obtain⟨ys,h6,_⟩:=h2;cases h6
  |rsv=>simp only[OR] at h2;cases h2
  |dead=>exact absurd rfl h5.1
  |mp l=>exact absurd rfl (h5.2.2.2 _)
  |si s p=>exact absurd rfl (h5.2.1 _ _)
  |lp a b c d=>exact absurd rfl (h5.2.2.1 _ _ _ _)
 have hf:∀(i v:Nat)(y:List Value),m[i]? =some (.fam v y)→v=cur i:=λi v y h=>by
  obtain⟨o,h1,h2⟩:=hobj i _ h
  have h4:=hcur i o h1
  have h5:=hall o (List.mem_of_getElem? h1)
  cases o with
  |os t k v' es=>obtain⟨y',_,h6,_⟩:=h2;cases h6
  |row t cs=>obtain⟨b,h6,_⟩:=h2;cases h6
  |fam t k v' es=>obtain⟨ys,h6,_⟩:=h2;simp only[Cz.fam.injEq] at h6;rw[h6.1];exact h4
  |rsv=>simp only[OR] at h2;cases h2
  |dead=>exact absurd rfl h5.1
  |mp l=>exact absurd rfl (h5.2.2.2 _)
  |si s p=>exact absurd rfl (h5.2.1 _ _)
  |lp a b c d=>exact absurd rfl (h5.2.2.1 _ _ _ _)
 have back:∀(i:Nat)(c:Cz),(jl T 0 m)[i]? =some c→∃c0,m[i]? =some c0∧c=c0.rv (T i):=λi c h=>by
  rw[hY] at h
  cases hg:m[i]? with
  |none=>rw[hg] at h;cases h
  |some c0=>rw[hg,Option.map_some,aq,Nat.zero_add] at h;exact⟨c0,rfl,h.symm⟩
 have backO:∀(i:Nat)(o:AO),(eI cur T 0 st)[i]? =some o→∃o0,st[i]? =some o0∧o=o0.rv cur T i:=λi c h=>by
  rw[jM] at h
  cases hg:st[i]? with
  |none=>rw[hg] at h;cases h
  |some c0=>rw[hg,Option.map_some,aq,Nat.zero_add] at h;exact⟨c0,rfl,h.symm⟩
 refine⟨⟨by rw[jN,gP];exact hs.len,λi o c h1 h2=>?_,hs.lt,λi j o o' c c' b h1 h2 l1 l2 k1 k2 e1 e2=>?_,hs.gl,λb ⟨i,c,h1,h2⟩=>?_⟩,λx v h=>RA.rv h3 hc hf x v h⟩
 ·obtain⟨o0,g1,rfl⟩:=backO i o h1
  obtain⟨c0,g2,rfl⟩:=back i c h2
  exact OR.rv h3 hc hf (hs.obj i o0 c0 g1 g2)
 ·obtain⟨o0,g1,rfl⟩:=backO i o h1
  obtain⟨o1,g2,rfl⟩:=backO j o' h2
  obtain⟨c0,g3,rfl⟩:=back i c k1
  obtain⟨c1,g4,rfl⟩:=back j c' k2
  exact hs.inj i j o0 o1 c0 c1 b g1 g2 (kA l1) (kA l2) g3 g4 (gy.1 e1) (gy.1 e2)
 ·obtain⟨c0,g3,rfl⟩:=back i c h1
  exact hs.nb b ⟨i,c0,g3,gy.1 h2⟩
def AO.plainB:AO→Bool| .dead=>false| .si _ _=>false| .lp _ _ _ _=>false| .mp _=>false|_=>true
theorem nf{l:List AO}(h:l.all AO.plainB=true):∀o∈l,o≠ .dead∧(∀s p,o≠ .si s p)∧(∀a b c d,o≠ .lp a b c d)∧∀l,o≠ .mp l:=λo ho=>by
 have:=List.all_eq_true.1 h o ho
 cases o<;>simp_all [AO.plainB]
def oN(cur:Nat→Nat):Nat→List AO→Prop
 |_,[]=>True
 |i,o::l=>o.curOk cur i∧oN cur (i+1) l
theorem kj{cur:Nat→Nat}:∀{l:List AO}{k:Nat},oN cur k l→∀(i:Nat)(o:AO),l[i]? =some o→o.curOk cur (k+i)
 |o::l,k,h,0,o',ho=>by simp only[List.getElem?_cons_zero,aq] at ho;subst ho;exact h.1
 |o::l,k,h,i+1,o',ho=>by
  have:=kj h.2 i o' (by simpa using ho)
  rw[show k+(i+1)=k+1+i by omega];exact this
 |[],_,_,i,o',ho=>by simp at ho
theorem eC{P:Program}{fn:Func}{env:Env}{st st1:List AO}{k:Nat}{S:AV→List AO→Prop}{m0 φ0 w0 n}{r r1 r2:AV}(perm:List Nat)(r0:AV)(new:List AO)(cur T:Nat→Nat){new' new2:List AO}(hr:Res P fn env st r)(hrr:r0.ren perm=r1)(hl:Le r r1)(hwk:SLe st st1)
  (hp:perm.Nodup)(hren:new.map (AO.ren perm)=new')(hwin:fF perm st1 new')(hlt:dF perm.length new=true)(hr0:r0.lt perm.length=true)(hm0:m0.length=k)(hk:k=perm.length)
  (hfix:rsvs k st=true)(hcur:oN cur 0 new)(hpl:new.all AO.plainB=true)(hn2:eI cur T 0 new=new2)(hr2:r0.rv cur T=r2)(hS:S r2 new2):WE P ⟨m0,φ0,w0,n,none,none⟩ .ret (.fin fn (cX k S)) env st:=λm φ a w hi=>by
 have h:=dv (F:=EF none) (n:=0) (e:=⟨m0,φ0,w0,n,none,none⟩) (Q:=λr' st'=>r'=r0.ren perm∧st'=st) (hr.le (by rw[hrr];exact hl)) ⟨rfl,rfl⟩ a.defers w hi.df.marks hi.sr hi.env hi.ev
 refine LeavesInM.mono (R:=cf ⟨m0,φ0,w0,n,none,none⟩ λr' st'=>r'=r0.ren perm∧st'=st) ?_ _ _ _ h
 rintro en w' ⟨v,r',st',m',φ',rfl,⟨rfl,rfl⟩,hev,hsr,hra⟩
 obtain⟨m2,g1,g2,g3⟩:=sg hsr hev hra hwk hp (by rw[hren];exact hwin) hlt hr0 (by show m0.length=_;rw[hm0,hk]) (λi hi=> .inr (mZ hfix oM))
 have hnl:new.length=k:=by
  have:=(dI hwin).1
  rw[←hren,List.length_map] at this;rw[this,hk]
 obtain⟨q1,q2⟩:=SR.rv (T:=T) g2 (λi o ho=>by have:=kj hcur i o ho;rwa [Nat.zero_add] at this) (nf hpl)
 rw[hn2] at q1
 have q3:=q2 _ _ g3
 rw[hr2] at q3
 have hl2:new2.length=k:=by rw[←hn2,gP,hnl]
 have hm2:m2.length=k:=by rw[g2.len,hnl]
 have hrs:∀(i:Nat)(c:Cz),m0[i]? =some c→c= .non:=λi c hc=>by
  have hik:i<k:=by rw[←hm0];exact(giS.1 hc).1
  obtain⟨c',h1,h2⟩:=hev.pre i c hc
  have h3:c'= .non:=hsr.obj i _ c' (mZ hfix hik) h1
  subst h3
  cases c with
  |non=>rfl
  |blk b=>simp[Cz.le] at h2
  |tok v y=>simp[Cz.le] at h2
  |fam v y=>simp[Cz.le] at h2
 refine⟨v,r2,new2,_,φ',rfl,⟨oM,by rw[←hl2,List.take_length];exact hS⟩,⟨λi c hc=>?_,λb ⟨i,c,h1,h2⟩=>?_,g1.os,g1.tape,g1.output,g1.size,g1.keep,g1.fz⟩,q1,q3⟩
 ·have:=hrs i c hc
  subst this
  have hik:i<(jl T 0 m2).length:=by rw[jN,hm2,←hm0];exact(giS.1 hc).1
  exact⟨_,geG hik,trivial⟩
 ·rw[hY] at h1
  cases hg:m2[i]? with
  |none=>rw[hg] at h1;cases h1
  |some c0=>
   rw[hg,Option.map_some,aq] at h1
   subst h1
   exact g1.new b ⟨i,c0,hg,gy.1 h2⟩
theorem oY{α:Type}(cur T:Nat→Nat)(i t k v:Nat)(E:α→List D)(L:List α):AO.rv cur T i (.os t k v (L.map (aF E)))= .os t k (T i) (L.map (aF E)):=by
 simp only[AO.rv,List.map_map,AO.os.injEq,true_and]
 refine List.map_congr_left λx _=>?_
 simp only[Function.comp,aF,List.map_map]
 exact List.map_congr_left λd _=>rfl
theorem qT{α:Type}(cur T:Nat→Nat)(i t k v:Nat)(E:α→List D)(L:List (List α)):AO.rv cur T i (.fam t k v (bc E L))= .fam t k (T i) (bc E L):=by
 simp only[AO.rv,bc,List.map_map,AO.fam.injEq,true_and]
 refine List.map_congr_left λM _=>?_
 have:=oY cur T 0 0 0 0 E M
 simp only[AO.rv,AO.os.injEq,true_and] at this
 exact this
theorem qS(cur T:Nat→Nat)(i t v fid fv n:Nat)(h:fv=cur fid):AO.rv cur T i (.os t 1 v (bg fid fv n))= .os t 1 (T i) (bg fid (T fid) n):=by
 simp only[AO.rv,bg,List.map_map,AO.os.injEq,true_and]
 refine List.map_congr_left λj _=>?_
 simp only[Function.comp,List.map_cons,List.map_nil,AV.rv,h,Nat.beq_refl,cdT]
end Go.Sk
namespace Go.Sk
end Go.Sk
namespace Go.Sk
open Go.RowKit (Below)
abbrev nilOf(_:Unit):Value:= .pointer none
section
variable{P:Program}{env:Env}{st:List AO}{dst:Option Tmp}{ty:TypeId}{pos:String}{after:Array Edge}{guard:Option (Nat×Bool)}
end
end Go.Sk
namespace Go.Sk
open Go.RowKit (Below)
section
variable{P:Program}{env:Env}{st:List AO}{dst:Option Tmp}{ty:TypeId}{pos:String}{after:Array Edge}{guard:Option (Nat×Bool)}
end
section
variable{P:Program}{env:Env}{st:List AO}
end
section
variable{P:Program}{env:Env}{st:List AO}{dst:Option Tmp}{ty:TypeId}{pos:String}{after:Array Edge}{guard:Option (Nat×Bool)}
end
section
variable{e:En}{env:Env}{st:List AO}
end
end Go.Sk
namespace Go.Sk
abbrev AV.n(x:Int):AV:= .d (D.i .i64 x)
abbrev AV.l{α:Type}(E:α→List D)(L:List α):AV:= .d (.sl (L.map E))
theorem q{α:Sort _}{a:α}:a=a:=rfl
abbrev Zt:True:=trivial
abbrev Zs:= @Les.refl
theorem Zp{T:Nat}{l:List AV}:OLe (.row T l) (.row T l):=⟨rfl,Les.refl _⟩
theorem Zf{α β γ δ:Type}{a:α}{b:β}{c:γ}{d:δ}:a=a∧b=b∧c=c∧d=d:=⟨rfl,rfl,rfl,rfl⟩
abbrev Zw:= @Wt.none
theorem Oi{α:Type}{a b:α}(h:some a=some b):a=b:=inS h
abbrev Zd:= @kq
abbrev eM{α:Type}(E:α→List D)(L:List α):List (List AV):=L.map (aF E)
abbrev rF(t f:Nat):AO:= .row t [.fn (.func f) [] []]
abbrev Zl{a:AV}:Le a a:=Le.refl a
abbrev Zn:= @WL.ns
abbrev Zq:= @WL.qn
abbrev Zy:= @WL.qy
theorem Sx{env' env:Env}{t:Nat}{x:AV}(h:env.get t=some x)(hs:Sub env' env):Sub ((t,x)::env') env:=Sub.cons h (Le.refl _) hs
theorem Ro{js:List Nat}{T k v:Nat}{α:Type}{E:α→List D}{L:List α}{l l':List AO}(h:l=l'):AO.ren js (.os T k v (L.map (aF E)))::l= .os T k v (L.map (aF E))::l':=dB (qV _ _ _ _ _ _) h
theorem Rf{js:List Nat}{T k v:Nat}{α:Type}{E:α→List D}{L:List (List α)}{l l':List AO}(h:l=l'):AO.ren js (.fam T k v (bc E L))::l= .fam T k v (bc E L)::l':=dB (sv _ _ _ _ _ _) h
theorem Rg{js:List Nat}{T v fid fv n:Nat}{l l':List AO}(h:l=l'):AO.ren js (.os T 1 v (bg fid fv n))::l= .os T 1 v (bg (js.getD fid 0) fv n)::l':=dB (su _ _ _ _ _ _) h
end Go.Sk
namespace Go.Sk
inductive NT(α:Type) where
 |lf
 |nd(k:Nat)(v:α)(l r:NT α)
def NT.get{α:Type}:NT α→Nat→Option α
 | .lf,_=>none
 | .nd k v l r,i=>bif Nat.beq i k then some v else bif Nat.blt i k then l.get i else r.get i
def NT.chk{α:Type}(f:Nat→Option α)(eq:α→α→Bool):NT α→Bool
 | .lf=>true
 | .nd k v l r=>(match f k with|some u=>eq u v|none=>false)&&(l.chk f eq&&r.chk f eq)
theorem dK{α:Type}{f:Nat→Option α}{eq:α→α→Bool}(he:∀a b,eq a b=true→a=b):∀{t:NT α},t.chk f eq=true→∀{i:Nat}{v:α},t.get i=some v→f i=some v
 | .lf,_,i,v,h=>by cases h
 | .nd k u l r,hc,i,v,h=>by
  simp only[NT.chk,Bool.and_eq_true] at hc
  unfold NT.get at h
  cases hb:Nat.beq i k with
  |true=>
   rw[hb] at h
   obtain rfl:=nbE hb
   obtain rfl:=inS h
   have h1:=hc.1
   cases hf:f i with
   |none=>rw[hf] at h1;cases h1
   |some w=>rw[hf] at h1;rw[he _ _ h1]
  |false=>
   rw[hb] at h
   simp only[cdF] at h
   cases hl:Nat.blt i k with
   |true=>rw[hl] at h;exact dK he hc.2.1 h
   |false=>rw[hl] at h;exact dK he hc.2.2 h
structure Ty where
 ag:NT Bool
 sz:NT Nat
 fo:NT (Nat×Nat×Bool)
 un:NT IntKind
def unK(P:Program)(T:Nat):Option IntKind:=match P.underlying T with
 |some (.int k)=>some k
 |_=>none
def foEq(a b:Nat×Nat×Bool):Bool:=Nat.beq a.1 b.1&&(Nat.beq a.2.1 b.2.1&&(a.2.2==b.2.2))
def Ty.ok(P:Program)(t:Ty):Bool:=
 t.ag.chk (aX P) (·==·)&&(t.sz.chk (bz P) Nat.beq&&(t.fo.chk (λi=>cW P (i / 64) (i%64)) foEq&&t.un.chk (unK P) (λa b=>decide (a=b))))
def Ty.fo'(t:Ty)(S i:Nat):Option (Nat×Nat×Bool):=bif Nat.blt i 64 then t.fo.get (S*64+i) else none
class Tys(P:Program) where
 t:Ty
 h:t.ok P=true
section
variable{P:Program}{t:Ty}(ht:t.ok P=true)
include ht
theorem iq{T:Nat}{b:Bool}(h:t.ag.get T=some b):aX P T=some b:=by
 simp only[Ty.ok,Bool.and_eq_true] at ht
 exact dK (λa b h=>by simpa using h) ht.1 h
theorem nS{T:Nat}{b:Nat}(h:t.sz.get T=some b):bz P T=some b:=by
 simp only[Ty.ok,Bool.and_eq_true] at ht
 exact dK (λa b h=>nbE h) ht.2.1 h
theorem eW{S i:Nat}{b:Nat×Nat×Bool}(h:t.fo' S i=some b):cW P S i=some b:=by
 simp only[Ty.ok,Bool.and_eq_true] at ht
 unfold Ty.fo' at h
 cases hb:Nat.blt i 64 with
 |false=>rw[hb] at h;cases h
 |true=>
  rw[hb] at h
  have hlt:i<64:=by have:=nbT hb;omega
  have:=dK (λa b h=>by
   simp only[foEq,Bool.and_eq_true] at h
   obtain⟨h1,h2,h3⟩:=h
   obtain⟨a1,a2,a3⟩:=a
   obtain⟨b1,b2,b3⟩:=b
   simp only at h1 h2 h3
   rw[nbE h1,nbE h2,eq_of_beq h3]) ht.2.2.1 h
  have e1:(S*64+i) / 64=S:=oM
  have e2:(S*64+i)%64=i:=oM
  simpa only[e1,e2] using this
theorem nR{T:Nat}{k:IntKind}(h:t.un.get T=some k):P.underlying T=some (.int k):=by
 simp only[Ty.ok,Bool.and_eq_true] at ht
 have:=dK (λa b h=>of_decide_eq_true h) ht.2.2.2 h
 unfold unK at this
 split at this
 ·rename_i hu;rw[hu];rw[inS this]
 ·cases this
end
def ti(k:IntKind)(p q:Int):BinOp→Option AV
 | .add=>some (.d (.v (.int k (k.wrap (p+q)))))
 | .sub=>some (.d (.v (.int k (k.wrap (p - q)))))
 | .mul=>some (.d (.v (.int k (k.wrap (p*q)))))
 | .lss=>some (.d (.v (.bool (decide (p<q)))))
 | .leq=>some (.d (.v (.bool (decide (p≤q)))))
 | .gtr=>some (.d (.v (.bool (decide (p>q)))))
 | .geq=>some (.d (.v (.bool (decide (p≥q)))))
 | .eql=>some (.d (.v (.bool (decide (p=q)))))
 | .neq=>some (.d (.v (.bool (!decide (p=q)))))
 |_=>none
def tf(p q:ByteArray):BinOp→Option AV
 | .eql=>some (.d (.v (.bool (p.toList==q.toList))))
 | .neq=>some (.d (.v (.bool (!(p.toList==q.toList)))))
 |_=>none
def binS(b:BinOp):AV→AV→Option AV
 | .d (.v (.int k p)), .d (.v (.int k' q))=>bif decide (k=k') then ti k p q b else none
 | .d (.v (.string p)), .d (.v (.string q))=>tf p q b
 |_,_=>none
def th(t:Ty)(st:List AO)(T:Nat):AV→Option AV
 | .pt id off=>match t.ag.get T with
  |some false=>match st[id]? with
   |some (.row _ cs)=>cs[off]?
   |_=>none
  |some true=>match st[id]?,t.sz.get T with
   |some (.row _ cs),some n=>bif Nat.ble (off+n) cs.length then some (.ag ((cs.drop off).take n)) else none
   |_,_=>none
  |none=>none
 | .d (.pc ps)=>match t.ag.get T with
  |some false=>match ps[0]? with
   |some p=>some (.d p)
   |none=>none
  |some true=>match t.sz.get T with
   |some n=>bif Nat.ble n ps.length then some (.d (.ag (ps.take n))) else none
   |none=>none
  |none=>none
 |_=>none
def faS(fo:Nat):AV→Option AV
 | .pt id off=>some (.pt id (off+fo))
 | .d (.pc ps)=>some (.d (.pc (ps.drop fo)))
 |_=>none
def fldS(f:Nat×Nat×Bool):AV→Option AV
 | .d (.ag ps)=>match f with
  |(fo,_,false)=>match ps[fo]? with
   |some p=>some (.d p)
   |none=>none
  |(fo,n,true)=>some (.d (.ag ((ps.drop fo).take n)))
 | .ag ps=>match f with
  |(fo,_,false)=>ps[fo]?
  |(fo,n,true)=>some (.ag ((ps.drop fo).take n))
 |_=>none
def nilS:AV→Option AV
 | .pt id off=>some (.pt id off)
 | .d (.pc ps)=>some (.d (.pc ps))
 | .fn (.func f) a b=>some (.fn (.func f) a b)
 |_=>none
def extS(i:Nat):AV→Option AV
 | .tu l=>l[i]?
 | .d (.tu l)=>match l[i]? with
  |some p=>some (.d p)
  |none=>none
 |_=>none
def notS:AV→Option AV
 | .d (.v (.bool b))=>some (.d (.v (.bool (!b))))
 |_=>none
def negS:AV→Option AV
 | .d (.v (.int k p))=>some (.d (.v (.int k (k.wrap (0 - p)))))
 |_=>none
def tC(k:IntKind):AV→Option AV
 | .d (.v (.int _ p))=>some (.d (.v (.int k (k.wrap p))))
 |_=>none
def rM:AV→Option Bool
 | .d (.v (.bool b))=>some b
 |_=>none
theorem nM{x:AV}{b:Bool}(h:rM x=some b):x= .d (.v (.bool b)):=by
 unfold rM at h
 split at h
 ·rw[inS h]
 ·cases h
def jd(t:Ty)(env:Env)(st:List AO):Op→Option AV
 | .move x=>opv env x
 | .assign x=>opv env x
 | .pick c x y=>match(opv env c).bind rM with
  |some true=>opv env x
  |some false=>opv env y
  |none=>none
 | .load T x=>(opv env x).bind (th t st T)
 | .fieldAddr S x i=>match t.fo' S i with
  |some (fo,_+1,_)=>(opv env x).bind (faS fo)
  |_=>none
 | .field S x i=>match t.fo' S i with
  |some f=>(opv env x).bind (fldS f)
  |none=>none
 | .nilCheck x=>(opv env x).bind nilS
 | .extract x i=>(opv env x).bind (extS i)
 | .unOp .not _ x=>(opv env x).bind notS
 | .unOp .neg _ x=>(opv env x).bind negS
 | .binOp b _ x y _=>match opv env x,opv env y with
  |some u1,some v1=>binS b u1 v1
  |_,_=>none
 | .convert S T x=>match t.un.get S,t.un.get T with
  |some _,some k=>(opv env x).bind (tC k)
  |_,_=>none
 | .makeFunc f first caps=>match cP env first.toList,cP env caps.toList with
  |some a,some b=>some (.fn f a b)
  |_,_=>none
 |_=>none
theorem gF{α β:Type}{o:Option α}{f:α→Option β}{r:β}(h:o.bind f=some r):∃x,o=some x∧f x=some r:=by
 cases o with
 |none=>cases h
 |some x=>exact⟨x,rfl,h⟩
section
variable{P:Program}{t:Ty}(ht:t.ok P=true){env:Env}{st:List AO}{dst:Option Tmp}{ty:TypeId}{pos:String}{after:Array Edge}{guard:Option (Nat×Bool)}
include ht
theorem mQ{op:Op}{r:AV}(h:jd t env st op=some r):Yields P env st ⟨dst,op,ty,pos,after,guard⟩ r:=by
 cases op with
 |move x=>exact tN h
 |assign x=>exact qA h
 |pick c x y=>
  dsimp only[jd] at h
  split at h
  ·rename_i hc;obtain⟨z,h1,h2⟩:=gF hc;rw[nM h2] at h1;exact qp h1 h
  ·rename_i hc;obtain⟨z,h1,h2⟩:=gF hc;rw[nM h2] at h1;exact qq h1 h
  ·cases h
 |load T x=>
  obtain⟨z,h1,h2⟩:=gF h
  unfold th at h2
  split at h2
  ·split at h2
   ·rename_i ha
    split at h2
    ·rename_i hs;exact qt h1 hs (iq ht ha) h2
    ·cases h2
   ·rename_i ha
    split at h2
    ·rename_i hs hn
     cases hb:Nat.ble (_+_) (List.length _) with
     |false=>rw[hb] at h2;cases h2
     |true=>rw[hb] at h2;obtain rfl:=inS h2;exact sb h1 hs (iq ht ha) (nS ht hn) hb
    ·cases h2
   ·cases h2
  ·split at h2
   ·rename_i ha
    split at h2
    ·rename_i hp;obtain rfl:=inS h2;exact rZ h1 (iq ht ha) hp
    ·cases h2
   ·rename_i ha
    split at h2
    ·rename_i hn
     cases hb:Nat.ble _ (List.length _) with
     |false=>rw[hb] at h2;cases h2
     |true=>rw[hb] at h2;obtain rfl:=inS h2;exact qs h1 (iq ht ha) (nS ht hn) hb
    ·cases h2
   ·cases h2
  ·cases h2
 |fieldAddr S x i=>
  dsimp only[jd] at h
  split at h
  ·rename_i hf
   obtain⟨z,h1,h2⟩:=gF h
   unfold faS at h2
   split at h2
   ·obtain rfl:=inS h2;exact mA (eW ht hf) h1
   ·obtain rfl:=inS h2;exact lz (eW ht hf) h1
   ·cases h2
  ·cases h
 |field S x i=>
  dsimp only[jd] at h
  split at h
  ·rename_i hf
   obtain⟨z,h1,h2⟩:=gF h
   unfold fldS at h2
   split at h2
   ·split at h2
    ·split at h2
     ·rename_i hp;obtain rfl:=inS h2;exact sc (eW ht hf) h1 hp
     ·cases h2
    ·obtain rfl:=inS h2;exact qw (eW ht hf) h1
   ·split at h2
    ·exact qv (eW ht hf) h1 h2
    ·obtain rfl:=inS h2;exact pL (eW ht hf) h1
   ·cases h2
  ·cases h
 |nilCheck x=>
  obtain⟨z,h1,h2⟩:=gF h
  unfold nilS at h2
  split at h2
  ·obtain rfl:=inS h2;exact mw h1
  ·obtain rfl:=inS h2;exact my h1
  ·obtain rfl:=inS h2;exact mx h1
  ·cases h2
 |extract x i=>
  obtain⟨z,h1,h2⟩:=gF h
  unfold extS at h2
  split at h2
  ·exact pM h1 h2
  ·split at h2
   ·rename_i hp;obtain rfl:=inS h2;exact ob h1 hp
   ·cases h2
  ·cases h2
 |unOp u T x=>
  cases u with
  |not=>
   obtain⟨z,h1,h2⟩:=gF h
   unfold notS at h2
   split at h2
   ·obtain rfl:=inS h2;exact y_not h1
   ·cases h2
  |neg=>
   obtain⟨z,h1,h2⟩:=gF h
   unfold negS at h2
   split at h2
   ·obtain rfl:=inS h2;exact y_neg h1 rfl
   ·cases h2
  |_=>cases h
 |binOp b T x y T'=>
  dsimp only[jd] at h
  split at h
  ·rename_i hu hv
   unfold binS at h
   split at h
   ·rename_i k p k' q
    cases hk:decide (k=k') with
    |false=>rw[hk] at h;cases h
    |true=>
     rw[hk] at h
     have hk:=of_decide_eq_true hk
     subst hk
     simp only[cdT] at h
     cases b<;>simp only[ti] at h<;>first|cases h|(obtain rfl:=inS h)
     ·exact gX hu hv rfl
     ·exact y_sub hu hv rfl
     ·exact y_mul hu hv rfl
     ·exact y_eql hu hv
     ·exact y_neq hu hv
     ·exact y_lss hu hv
     ·exact y_leq hu hv
     ·exact y_gtr hu hv
     ·exact y_geq hu hv
   ·cases b<;>simp only[tf] at h<;>first|cases h|(obtain rfl:=inS h)
    ·exact y_eqs hu hv
    ·exact y_nes hu hv
   ·cases h
  ·cases h
 |convert S T x=>
  dsimp only[jd] at h
  split at h
  ·rename_i hS hT
   obtain⟨z,h1,h2⟩:=gF h
   unfold tC at h2
   split at h2
   ·obtain rfl:=inS h2;exact tT (nR ht hS) (nR ht hT) h1 rfl
   ·cases h2
  ·cases h
 |makeFunc f a b=>
  dsimp only[jd] at h
  split at h
  ·rename_i h1 h2
   obtain rfl:=inS h
   exact n7 h1 h2
  ·cases h
 |_=>cases h
end
def mK(ops:Array Oper)(env:Env):Option (Nat×Bool)→Option Bool
 |none=>some true
 |some (j,b)=>match(ops[j]?).bind (·.dst) with
  |some t=>match env.get t with
   |some (.d (.v (.bool x)))=>some (x==b)
   |some (.d (.v (.tuple _)))=>some false
   |_=>none
  |none=>none
def je(t:Ty)(n:Nat)(ops:Array Oper)(st:List AO)(env:Env)(o:Oper):Option Env:=
 match mK ops env o.guard with
 |some true=>match o.dst with
  |some d=>bif Nat.ble (d+1) n then(match jd t env st o.op with
   |some r=>some ((d,r)::env)
   |none=>none) else none
  |none=>none
 |some false=>match o.dst with
  |some d=>bif Nat.ble (d+1) n then some ((d, .d (.v undef))::env) else none
  |none=>some env
 |none=>none
def hZ(t:Ty)(n:Nat)(ops:Array Oper)(st:List AO):Nat→List Oper→Env→Option (List Oper×Env)
 |0,l,env=>some (l,env)
 |k+1,o::l,env=>match je t n ops st env o with
  |some env'=>hZ t n ops st k l env'
  |none=>none
 |_+1,[],_=>none
section
variable{P:Program}{t:Ty}(ht:t.ok P=true){e:En}{ops:Array Oper}{st:List AO}{R:Env→List AO→Prop}{n:Nat}{RQ:Env→Prop}
omit ht in
theorem jG{env:Env}{o:Oper}(h:mK ops env o.guard=some true):Wt ops env o true:=by
 unfold mK at h
 split at h
 ·rename_i hg;exact Wt.none hg
 ·rename_i j b hg
  split at h
  ·rename_i hj
   split at h
   ·rename_i x hx
    have:x=b:=by simpa using h
    subst this
    exact bu hg hj hx
   ·cases h
   ·cases h
  ·cases h
omit ht in
theorem eD{env:Env}{o:Oper}(h:mK ops env o.guard=some false):Wt ops env o false:=by
 unfold mK at h
 split at h
 ·cases h
 ·rename_i j b hg
  split at h
  ·rename_i hj
   split at h
   ·rename_i x hx
    exact Wt.no hg hj hx (inS h)
   ·rename_i x hx
    intro m φ w a he
    simp only[Region.wanted,hg,gL he hj hx];rfl
   ·cases h
  ·cases h
include ht
theorem hG{env env':Env}{o:Oper}{l:List Oper}(h:je t e.n ops st env o=some env')(k:WL P e ops l env' st R):WL P e ops (o::l) env st R:=by
 unfold je at h
 split at h
 ·rename_i hw
  split at h
  ·rename_i d hd
   cases hb:Nat.ble (d+1) e.n with
   |false=>rw[hb] at h;cases h
   |true=>
    rw[hb] at h
    simp only[cdT] at h
    split at h
    ·rename_i r hr
     obtain rfl:=inS h
     obtain⟨od,oop,oty,opos,oaf,og⟩:=o
     exact WL.q (mQ ht hr) (jG hw) hd hb k
    ·cases h
  ·cases h
 ·rename_i hw
  split at h
  ·rename_i d hd
   cases hb:Nat.ble (d+1) e.n with
   |false=>rw[hb] at h;cases h
   |true=>rw[hb] at h;obtain rfl:=inS h;exact WL.skip (eD hw) hd hb k
  ·rename_i hd;obtain rfl:=inS h;exact WL.skip0 (eD hw) hd k
 ·cases h
theorem qO{env env':Env}{o:Oper}{l:List Oper}(h:je t n ops st env o=some env')(k:WQ P n ops l env' st RQ):WQ P n ops (o::l) env st RQ:=by
 unfold je at h
 split at h
 ·rename_i hw
  split at h
  ·rename_i d hd
   cases hb:Nat.ble (d+1) n with
   |false=>rw[hb] at h;cases h
   |true=>
    rw[hb] at h
    simp only[cdT] at h
    split at h
    ·rename_i r hr
     obtain rfl:=inS h
     obtain⟨od,oop,oty,opos,oaf,og⟩:=o
     exact WQ.q (ft (mQ ht hr)) (jG hw) hd hb k
    ·cases h
  ·cases h
 ·rename_i hw
  split at h
  ·rename_i d hd
   cases hb:Nat.ble (d+1) n with
   |false=>rw[hb] at h;cases h
   |true=>rw[hb] at h;obtain rfl:=inS h;exact WQ.skip (eD hw) hd hb k
  ·rename_i hd;obtain rfl:=inS h;exact WQ.skip0 (eD hw) hd k
 ·cases h
theorem o4:∀{k:Nat}{l l':List Oper}{env env':Env},hZ t e.n ops st k l env=some (l',env')→WL P e ops l' env' st R→WL P e ops l env st R
 |0,l,l',env,env',h,k=>by obtain⟨rfl,rfl⟩:=Prod.mk.inj (inS h);exact k
 |j+1,[],l',env,env',h,k=>by cases h
 |j+1,o::l,l',env,env',h,k=>by
  unfold hZ at h
  split at h
  ·rename_i hs;exact hG ht hs (o4 h k)
  ·cases h
theorem oZ:∀{k:Nat}{l l':List Oper}{env env':Env},hZ t n ops st k l env=some (l',env')→WQ P n ops l' env' st RQ→WQ P n ops l env st RQ
 |0,l,l',env,env',h,k=>by obtain⟨rfl,rfl⟩:=Prod.mk.inj (inS h);exact k
 |j+1,[],l',env,env',h,k=>by cases h
 |j+1,o::l,l',env,env',h,k=>by
  unfold hZ at h
  split at h
  ·rename_i hs;exact qO ht hs (oZ h k)
  ·cases h
end
theorem Rl{P:Program}[T:Tys P]{e:En}{ops:Array Oper}{st:List AO}{R:Env→List AO→Prop}{l l':List Oper}{env env':Env}(k:Nat)(h:hZ T.t e.n ops st k l env=some (l',env'))(hw:WL P e ops l' env' st R):WL P e ops l env st R:=o4 T.h h hw
theorem Rq{P:Program}[T:Tys P]{n:Nat}{ops:Array Oper}{st:List AO}{R:Env→Prop}{l l':List Oper}{env env':Env}(k:Nat)(h:hZ T.t n ops st k l env=some (l',env'))(hw:WQ P n ops l' env' st R):WQ P n ops l env st R:=oZ T.h h hw
inductive SS where
 |c(c:Code)(k:Ko)
 |x(x:Exit)(k:Ko)
 |l(ops:Array Oper)(l:List Oper)(k:Ko)
@[reducible] def SS.den(P:Program)(e:En)(env:Env)(st:List AO):SS→Prop
 | .c cd k=>WC P e cd k env st
 | .x ex k=>WE P e ex k env st
 | .l ops ol k=>WL P e ops ol env st (λenv' st'=>WE P e .normal k env' st')
def ctlC(k:Ko):Code→Option SS
 | .seq x y=>some (.c x (.seq y k))
 | .skip=>some (.x .normal k)
 | .ret=>some (.x .ret k)
 | .exit i=>some (.x (.exit i) k)
 | .block i x=>some (.c x (.blk i k))
 | .region _ a false=>bif bl a.toList then some (.l a a.toList k) else none
 |_=>none
def ctlX:Exit→Ko→Option SS
 | .normal, .seq c k=>some (.c c k)
 | .ret, .seq _ k=>some (.x .ret k)
 | .exit i, .seq _ k=>some (.x (.exit i) k)
 | .normal, .blk _ k=>some (.x .normal k)
 | .ret, .blk _ k=>some (.x .ret k)
 | .exit i, .blk j k=>bif Nat.beq i j then some (.x .normal k) else some (.x (.exit i) k)
 | .ret, .lp _ k=>some (.x .ret k)
 | .exit i, .lp _ k=>some (.x (.exit i) k)
 |_,_=>none
def mT(t:Ty)(n:Nat)(st:List AO)(env:Env):SS→Option (SS×Env)
 | .c cd k=>match ctlC k cd with
  |some s=>some (s,env)
  |none=>none
 | .x ex k=>match ctlX ex k with
  |some s=>some (s,env)
  |none=>none
 | .l _ [] k=>some (.x .normal k,env)
 | .l ops (o::l) k=>match je t n ops st env o with
  |some env'=>some (.l ops l k,env')
  |none=>none
def jo(t:Ty)(n:Nat)(st:List AO):Nat→SS→Env→Option (SS×Env)
 |0,s,env=>some (s,env)
 |k+1,s,env=>match mT t n st env s with
  |some (s',env')=>jo t n st k s' env'
  |none=>none
section
variable{P:Program}{t:Ty}(ht:t.ok P=true){e:En}{st:List AO}
include ht
theorem qN{env env':Env}{s s':SS}(h:mT t e.n st env s=some (s',env'))(k:s'.den P e env' st):s.den P e env st:=by
 cases s with
 |c c κ=>
  dsimp only[mT] at h
  split at h
  ·rename_i s1 hc
   obtain⟨rfl,rfl⟩:=Prod.mk.inj (inS h)
   cases c with
   |seq x y=>obtain rfl:=inS hc;exact tY k
   |skip=>obtain rfl:=inS hc;exact sj k
   |ret=>obtain rfl:=inS hc;exact tZ k
   |exit i=>obtain rfl:=inS hc;exact sk k
   |block i x=>obtain rfl:=inS hc;exact qG k
   |region i a b=>
    cases b with
    |true=>cases hc
    |false=>
     dsimp only[ctlC] at hc
     cases hb:bl a.toList with
     |false=>rw[hb] at hc;cases hc
     |true=>
      rw[hb] at hc
      obtain rfl:=inS hc
      exact pR (l:=a.toList) k hb
   |_=>cases hc
  ·cases h
 |x x κ=>
  dsimp only[mT] at h
  split at h
  ·rename_i s1 hc
   obtain⟨rfl,rfl⟩:=Prod.mk.inj (inS h)
   unfold ctlX at hc
   split at hc
   ·obtain rfl:=inS hc;exact qD k
   ·obtain rfl:=inS hc;exact oh k
   ·obtain rfl:=inS hc;exact mF k
   ·obtain rfl:=inS hc;exact tV k
   ·obtain rfl:=inS hc;exact ov k
   ·rename_i i j κ'
    cases hb:Nat.beq i j with
    |true=>rw[hb] at hc;obtain rfl:=inS hc;obtain rfl:=nbE hb;exact ox k
    |false=>rw[hb] at hc;obtain rfl:=inS hc;exact mG hb k
   ·obtain rfl:=inS hc;exact pP k
   ·obtain rfl:=inS hc;exact ou k
   ·cases hc
  ·cases h
 |l ops l κ=>
  cases l with
  |nil=>obtain⟨rfl,rfl⟩:=Prod.mk.inj (inS h);exact WL.nil k
  |cons o l=>
   dsimp only[mT] at h
   split at h
   ·rename_i env1 hs
    obtain⟨rfl,rfl⟩:=Prod.mk.inj (inS h)
    exact hG ht hs k
   ·cases h
theorem dN:∀{k:Nat}{s s':SS}{env env':Env},jo t e.n st k s env=some (s',env')→s'.den P e env' st→s.den P e env st
 |0,s,s',env,env',h,k=>by obtain⟨rfl,rfl⟩:=Prod.mk.inj (inS h);exact k
 |j+1,s,s',env,env',h,k=>by
  unfold jo at h
  split at h
  ·rename_i hs;exact qN ht hs (dN h k)
  ·cases h
end
section
variable{P:Program}[T:Tys P]{e:En}{st:List AO}{env env':Env}{κ κ':Ko}
theorem Rcc{c:Code}{c':Code}(k:Nat)(h:jo T.t e.n st k (.c c κ) env=some ((.c c' κ'),env'))(hw:WC P e c' κ' env' st):WC P e c κ env st:=dN (s:=(.c c κ)) T.h h hw
theorem Rcx{c:Code}{x':Exit}(k:Nat)(h:jo T.t e.n st k (.c c κ) env=some ((.x x' κ'),env'))(hw:WE P e x' κ' env' st):WC P e c κ env st:=dN (s:=(.c c κ)) T.h h hw
theorem Rcl{c:Code}{ops':Array Oper}{l':List Oper}(k:Nat)(h:jo T.t e.n st k (.c c κ) env=some ((.l ops' l' κ'),env'))(hw:WL P e ops' l' env' st λenv' st'=>WE P e .normal κ' env' st'):WC P e c κ env st:=dN (s:=(.c c κ)) T.h h hw
theorem Rxc{x:Exit}{c':Code}(k:Nat)(h:jo T.t e.n st k (.x x κ) env=some ((.c c' κ'),env'))(hw:WC P e c' κ' env' st):WE P e x κ env st:=dN (s:=(.x x κ)) T.h h hw
theorem Rxx{x:Exit}{x':Exit}(k:Nat)(h:jo T.t e.n st k (.x x κ) env=some ((.x x' κ'),env'))(hw:WE P e x' κ' env' st):WE P e x κ env st:=dN (s:=(.x x κ)) T.h h hw
theorem Rxl{x:Exit}{ops':Array Oper}{l':List Oper}(k:Nat)(h:jo T.t e.n st k (.x x κ) env=some ((.l ops' l' κ'),env'))(hw:WL P e ops' l' env' st λenv' st'=>WE P e .normal κ' env' st'):WE P e x κ env st:=dN (s:=(.x x κ)) T.h h hw
theorem Rlc{ops:Array Oper}{l:List Oper}{c':Code}(k:Nat)(h:jo T.t e.n st k (.l ops l κ) env=some ((.c c' κ'),env'))(hw:WC P e c' κ' env' st):WL P e ops l env st (λenv' st'=>WE P e .normal κ env' st'):=dN (s:=(.l ops l κ)) T.h h hw
theorem Rlx{ops:Array Oper}{l:List Oper}{x':Exit}(k:Nat)(h:jo T.t e.n st k (.l ops l κ) env=some ((.x x' κ'),env'))(hw:WE P e x' κ' env' st):WL P e ops l env st (λenv' st'=>WE P e .normal κ env' st'):=dN (s:=(.l ops l κ)) T.h h hw
theorem Rll{ops:Array Oper}{l:List Oper}{ops':Array Oper}{l':List Oper}(k:Nat)(h:jo T.t e.n st k (.l ops l κ) env=some ((.l ops' l' κ'),env'))(hw:WL P e ops' l' env' st λenv' st'=>WE P e .normal κ' env' st'):WL P e ops l env st (λenv' st'=>WE P e .normal κ env' st'):=dN (s:=(.l ops l κ)) T.h h hw
end
end Go.Sk
namespace Go.Sk
open Go.RowKit (Below)
section
variable{P:Program}{e:En}{ops:Array Oper}{rest:List Oper}{env:Env}{st:List AO}{R:Env→List AO→Prop}{κ:Ko}{x y:Code}
theorem Lv{a b:AV}(h:Le a b:=by
 repeat' (first|exact Le.refl _|exact Le.nil|exact Le.u _|exact Le.fs _|exact Les.refl _|exact trivial|refine bd ?_|refine aw ?_|refine Le.fnc ?_ ?_|refine⟨?_,?_⟩)):Le a b:=h
theorem Lw{a b:List AV}(h:Les a b:=by
 repeat' (first|exact Le.refl _|exact Le.nil|exact Le.u _|exact Le.fs _|exact Les.refl _|exact trivial|refine bd ?_|refine aw ?_|refine Le.fnc ?_ ?_|refine⟨?_,?_⟩)):Les a b:=h
theorem Rv{f:Func}{r:AV}(h:Res P f env st r:=by
 first|exact rs1 rfl (ap rfl)|exact rs2 rfl (ap rfl) (ap rfl)|exact bT rfl|exact rs3 rfl (ap rfl) (ap rfl) (ap rfl)):Res P f env st r:=h
theorem Ci{c:Operand}{t:Bool}{β:Sort _}{a b z:β}(h:(bif t then a else b)=z)(hc:opv env c=some (.d (.v (.bool t))))(h1:a=z→WC P e x κ env st)(h0:b=z→WC P e y κ env st):WC P e (.cond c x y) κ env st:=d4 hc (λhh=>h1 (dP h hh)) (λhh=>h0 (dQ h hh))
theorem Ix{α β:Type}{E Q:α→List D}{L:List α}{i:Int}{F:α→Option β}{r:β}{T n d:Nat}{bb:Bool}{x ix:Operand}{xr:AV}{kk:IntKind}{ty:TypeId}{pos:String}{after:Array Edge}(h:Option.bind (idx L i) F=some r)(hT:aL P T=some (n,bb))(hE:∀x,E x=Q x)(hx:opv env x=some xr)(hle:Le xr (.d (.sl (L.map E))))(hi:opv env ix=some (.d (.v (.int kk i))))(hd:Nat.ble (d+1) e.n=true)
  (k:∀x,idx L i=some x→F x=some r→WL P e ops rest ((d, .d (.pc (Q x)))::env) st R)(hn:∀x,(Q x).length=n:=by exact λ_=>rfl):WL P e ops (⟨some d, .indexAddr T x ix,ty,pos,after,none⟩::rest) env st R:=by
 obtain⟨z,hz,h⟩:=aa h
 exact WL.qn (aj hT hx hle hi (ae hz) (aR hE hz) (hn z)) hd (k z hz h)
theorem FA{a p:Prop}(ha:a)(h:a→p:=by
 intro h
 obtain rfl:=inS h
 exact aS Rv Lv):p:=h ha
theorem FB{a p:Prop}(ha:a)(h:a→p:=by
 intro h
 subst h
 exact aS Rv Lv):p:=h ha
variable{dd:Nat}{ty:TypeId}{pos:String}{after:Array Edge}
theorem Bd{T:TypeId}{x:Operand}{r:AV}{ds:List D}(hx:opv env x=some r)(hk:r.okc=true)(hc:Les r.cells (ds.map .d))(hd:Nat.ble (dd+1) e.n=true)(h:WL P e ops rest ((dd, .d (.pc ds))::env) st R):WL P e ops (⟨some dd, .box T x,ty,pos,after,none⟩::rest) env st R:=WL.s (gU hx hk hc).does (Wt.none rfl) rfl hd h
theorem Bx{T:TypeId}{x:Operand}{r:AV}(hx:opv env x=some r)(hk:r.okc=true)(hd:Nat.ble (dd+1) e.n=true)(h:WL P e ops rest ((dd, .pt st.length 0)::env) (st++ [.row T r.cells]) R):WL P e ops (⟨some dd, .box T x,ty,pos,after,none⟩::rest) env st R:=WL.s (b_box hx hk).does (Wt.none rfl) rfl hd h
theorem Al{T:TypeId}{vs:List Value}(hz:aG P T=some vs)(hd:Nat.ble (dd+1) e.n=true)(h:WL P e ops rest ((dd, .pt st.length 0)::env) (st++ [.row T (vs.map λv=> .d (.v v))]) R):WL P e ops (⟨some dd, .alloc T,ty,pos,after,none⟩::rest) env st R:=WL.s (sX hz).does (Wt.none rfl) rfl hd h
theorem Tv{a b:List AO}(h:SLe a b:=by
 first|exact SLe.refl _|repeat' (first|exact rfl|exact Le.refl _|exact Le.nil|exact Le.u _|exact Le.fs _|exact Les.refl _|exact trivial|refine bd ?_|refine aw ?_|refine Le.fnc ?_ ?_|refine⟨?_,?_⟩)):SLe a b:=h
theorem Cb{b c:Bool}(h:b=c):D.v (Value.bool b)=D.v (Value.bool c):=by rw[h]
theorem Re{α:Type}{a:α}{l l':List α}(k:l=l'):a::l=a::l':=by rw[k]
theorem Kv{n:Nat}{l:List AO}(h:dF n l=true:=by
 first|exact rfl|repeat' (first|exact rfl|refine d9 rfl ?_|refine d9 (rb _ _ _ _ _ _) ?_|refine d9 (rf _ _ _ _ _ _) ?_|refine d9 (ui _ _ _ _ _ _ _ rfl) ?_)):dF n l=true:=h
theorem Sb{a b:Env}(h:Sub a b:=by
 repeat' (first|exact Sub.nil _|refine Sub.cons rfl ?_ ?_|exact Le.refl _|exact Le.nil|exact Le.u _|exact Le.fs _|exact Les.refl _|exact trivial|refine bd ?_|refine aw ?_|refine Le.fnc ?_ ?_|refine⟨?_,?_⟩)):Sub a b:=h
section
universe uu
variable{β:Sort uu}{z:β}{n:Nat}{α0 α1 α2 α3 α4 α5 α6 α7 α8 α9 α10 α11 α12 α13 α14 α15 α16 α17 α18 α19 α20 α21 α22 α23 α24 α25 α26 α27 α28 α29 α30 α31 α32 α33 α34 α35:Type}
theorem Jn0(A:Env)(S:List AO){K:Unit→β}{F:(Unit→β)→β}(h:letk K F=z)(h1:∀k:Unit→β,F k=z→WC P e x (.lp (λu v=>k ()=z∧Sub (A) u∧SLe v (S)) κ) env st)(h2:K ()=z→WC P e y κ (A) (S)):WC P e (.seq x y) κ env st:=by
 refine cH _ (h1 K h) ?_
 rintro u v ⟨h,hs,hw⟩
 exact WC.sub hs (WC.weak hw (h2 h))
theorem En0{A:Env}{S:List AO}{k:Unit→β}(h:k ()=z)(h0:Sub (A) env:=by exact Sb)(h1:SLe st (S):=by exact Tv):WE P e .normal (.lp (λu v=>k ()=z∧Sub (A) u∧SLe v (S)) κ) env st:=cZ ⟨h,h0,h1⟩
theorem Jn1(A:α0→Env)(S:α0→List AO){K:α0→β}{F:(α0→β)→β}(h:letk K F=z)(h1:∀k:α0→β,F k=z→WC P e x (.lp (λu v=>∃x0,k x0=z∧Sub (A x0) u∧SLe v (S x0)) κ) env st)(h2:∀x0,K x0=z→WC P e y κ (A x0) (S x0)):WC P e (.seq x y) κ env st:=by
 refine cH _ (h1 K h) ?_
 rintro u v ⟨x0,h,hs,hw⟩
 exact WC.sub hs (WC.weak hw (h2 x0 h))
theorem Ln1(A:α0→Env)(S:α0→List AO)(L:Nat→α0→β){N:Nat}{i0:α0}(h:L N i0=z)(hz:∀x0,L 0 x0=z→False)(hs':∀n x0,L (n+1) x0=z→WC P e x (.lp (λu v=>∃y,(∃x0,L y x0=z∧Sub (A x0) u∧SLe v (S x0))∧y<n+1) κ) (A x0) (S x0))(h0:Sub (A i0) env:=by exact Sb)(h1:SLe st (S i0):=by exact Tv):WC P e (.loop x) κ env st:=by
 refine db (λn u v=>∃x0,L n x0=z∧Sub (A x0) u∧SLe v (S x0)) (λn=>n) N ⟨_,h,h0,h1⟩ ?_
 rintro n u v ⟨x0,h,hs,hw⟩
 rcases n with _|n
 ·exact(hz x0 h).elim
 ·exact WC.sub hs (WC.weak hw (hs' n x0 h))
theorem En1{A:α0→Env}{S:α0→List AO}{k:α0→β}{i0:α0}(h:k i0=z)(h0:Sub (A i0) env:=by exact Sb)(h1:SLe st (S i0):=by exact Tv):WE P e .normal (.lp (λu v=>∃x0,k x0=z∧Sub (A x0) u∧SLe v (S x0)) κ) env st:=cZ ⟨_,h,h0,h1⟩
theorem Fn1{A:α0→Env}{S:α0→List AO}{L:Nat→α0→β}{i0:α0}(h:L n i0=z)(h0:Sub (A i0) env:=by exact Sb)(h1:SLe st (S i0):=by exact Tv):WE P e .normal (.lp (λu v=>∃y,(∃x0,L y x0=z∧Sub (A x0) u∧SLe v (S x0))∧y<n+1) κ) env st:=cZ ⟨n,⟨_,h,h0,h1⟩,Nat.lt_succ_self n⟩
theorem Jn2(A:α0→α1→Env)(S:α0→α1→List AO){K:α0→α1→β}{F:(α0→α1→β)→β}(h:letk K F=z)(h1:∀k:α0→α1→β,F k=z→WC P e x (.lp (λu v=>∃x0 x1,k x0 x1=z∧Sub (A x0 x1) u∧SLe v (S x0 x1)) κ) env st)(h2:∀x0 x1,K x0 x1=z→WC P e y κ (A x0 x1) (S x0 x1)):WC P e (.seq x y) κ env st:=by
 refine cH _ (h1 K h) ?_
 rintro u v ⟨x0,x1,h,hs,hw⟩
 exact WC.sub hs (WC.weak hw (h2 x0 x1 h))
theorem Ln2(A:α0→α1→Env)(S:α0→α1→List AO)(L:Nat→α0→α1→β){N:Nat}{i0:α0}{i1:α1}(h:L N i0 i1=z)(hz:∀x0 x1,L 0 x0 x1=z→False)(hs':∀n x0 x1,L (n+1) x0 x1=z→WC P e x (.lp (λu v=>∃y,(∃x0 x1,L y x0 x1=z∧Sub (A x0 x1) u∧SLe v (S x0 x1))∧y<n+1) κ) (A x0 x1) (S x0 x1))(h0:Sub (A i0 i1) env:=by exact Sb)(h1:SLe st (S i0 i1):=by exact Tv):WC P e (.loop x) κ env st:=by
 refine db (λn u v=>∃x0 x1,L n x0 x1=z∧Sub (A x0 x1) u∧SLe v (S x0 x1)) (λn=>n) N ⟨_,_,h,h0,h1⟩ ?_
 rintro n u v ⟨x0,x1,h,hs,hw⟩
 rcases n with _|n
 ·exact(hz x0 x1 h).elim
 ·exact WC.sub hs (WC.weak hw (hs' n x0 x1 h))
theorem En2{A:α0→α1→Env}{S:α0→α1→List AO}{k:α0→α1→β}{i0:α0}{i1:α1}(h:k i0 i1=z)(h0:Sub (A i0 i1) env:=by exact Sb)(h1:SLe st (S i0 i1):=by exact Tv):WE P e .normal (.lp (λu v=>∃x0 x1,k x0 x1=z∧Sub (A x0 x1) u∧SLe v (S x0 x1)) κ) env st:=cZ ⟨_,_,h,h0,h1⟩
theorem Fn2{A:α0→α1→Env}{S:α0→α1→List AO}{L:Nat→α0→α1→β}{i0:α0}{i1:α1}(h:L n i0 i1=z)(h0:Sub (A i0 i1) env:=by exact Sb)(h1:SLe st (S i0 i1):=by exact Tv):WE P e .normal (.lp (λu v=>∃y,(∃x0 x1,L y x0 x1=z∧Sub (A x0 x1) u∧SLe v (S x0 x1))∧y<n+1) κ) env st:=cZ ⟨n,⟨_,_,h,h0,h1⟩,Nat.lt_succ_self n⟩
theorem Jn3(A:α0→α1→α2→Env)(S:α0→α1→α2→List AO){K:α0→α1→α2→β}{F:(α0→α1→α2→β)→β}(h:letk K F=z)(h1:∀k:α0→α1→α2→β,F k=z→WC P e x (.lp (λu v=>∃x0 x1 x2,k x0 x1 x2=z∧Sub (A x0 x1 x2) u∧SLe v (S x0 x1 x2)) κ) env st)(h2:∀x0 x1 x2,K x0 x1 x2=z→WC P e y κ (A x0 x1 x2) (S x0 x1 x2)):WC P e (.seq x y) κ env st:=by
 refine cH _ (h1 K h) ?_
 rintro u v ⟨x0,x1,x2,h,hs,hw⟩
 exact WC.sub hs (WC.weak hw (h2 x0 x1 x2 h))
theorem En3{A:α0→α1→α2→Env}{S:α0→α1→α2→List AO}{k:α0→α1→α2→β}{i0:α0}{i1:α1}{i2:α2}(h:k i0 i1 i2=z)(h0:Sub (A i0 i1 i2) env:=by exact Sb)(h1:SLe st (S i0 i1 i2):=by exact Tv):WE P e .normal (.lp (λu v=>∃x0 x1 x2,k x0 x1 x2=z∧Sub (A x0 x1 x2) u∧SLe v (S x0 x1 x2)) κ) env st:=cZ ⟨_,_,_,h,h0,h1⟩
theorem Fn3{A:α0→α1→α2→Env}{S:α0→α1→α2→List AO}{L:Nat→α0→α1→α2→β}{i0:α0}{i1:α1}{i2:α2}(h:L n i0 i1 i2=z)(h0:Sub (A i0 i1 i2) env:=by exact Sb)(h1:SLe st (S i0 i1 i2):=by exact Tv):WE P e .normal (.lp (λu v=>∃y,(∃x0 x1 x2,L y x0 x1 x2=z∧Sub (A x0 x1 x2) u∧SLe v (S x0 x1 x2))∧y<n+1) κ) env st:=cZ ⟨n,⟨_,_,_,h,h0,h1⟩,Nat.lt_succ_self n⟩
theorem Jn4(A:α0→α1→α2→α3→Env)(S:α0→α1→α2→α3→List AO){K:α0→α1→α2→α3→β}{F:(α0→α1→α2→α3→β)→β}(h:letk K F=z)(h1:∀k:α0→α1→α2→α3→β,F k=z→WC P e x (.lp (λu v=>∃x0 x1 x2 x3,k x0 x1 x2 x3=z∧Sub (A x0 x1 x2 x3) u∧SLe v (S x0 x1 x2 x3)) κ) env st)(h2:∀x0 x1 x2 x3,K x0 x1 x2 x3=z→WC P e y κ (A x0 x1 x2 x3) (S x0 x1 x2 x3)):WC P e (.seq x y) κ env st:=by
 refine cH _ (h1 K h) ?_
 rintro u v ⟨x0,x1,x2,x3,h,hs,hw⟩
 exact WC.sub hs (WC.weak hw (h2 x0 x1 x2 x3 h))
theorem Ln4(A:α0→α1→α2→α3→Env)(S:α0→α1→α2→α3→List AO)(L:Nat→α0→α1→α2→α3→β){N:Nat}{i0:α0}{i1:α1}{i2:α2}{i3:α3}(h:L N i0 i1 i2 i3=z)(hz:∀x0 x1 x2 x3,L 0 x0 x1 x2 x3=z→False)(hs':∀n x0 x1 x2 x3,L (n+1) x0 x1 x2 x3=z→WC P e x (.lp (λu v=>∃y,(∃x0 x1 x2 x3,L y x0 x1 x2 x3=z∧Sub (A x0 x1 x2 x3) u∧SLe v (S x0 x1 x2 x3))∧y<n+1) κ) (A x0 x1 x2 x3) (S x0 x1 x2 x3))(h0:Sub (A i0 i1 i2 i3) env:=by exact Sb)(h1:SLe st (S i0 i1 i2 i3):=by exact Tv):WC P e (.loop x) κ env st:=by
 refine db (λn u v=>∃x0 x1 x2 x3,L n x0 x1 x2 x3=z∧Sub (A x0 x1 x2 x3) u∧SLe v (S x0 x1 x2 x3)) (λn=>n) N ⟨_,_,_,_,h,h0,h1⟩ ?_
 rintro n u v ⟨x0,x1,x2,x3,h,hs,hw⟩
 rcases n with _|n
 ·exact(hz x0 x1 x2 x3 h).elim
 ·exact WC.sub hs (WC.weak hw (hs' n x0 x1 x2 x3 h))
theorem En4{A:α0→α1→α2→α3→Env}{S:α0→α1→α2→α3→List AO}{k:α0→α1→α2→α3→β}{i0:α0}{i1:α1}{i2:α2}{i3:α3}(h:k i0 i1 i2 i3=z)(h0:Sub (A i0 i1 i2 i3) env:=by exact Sb)(h1:SLe st (S i0 i1 i2 i3):=by exact Tv):WE P e .normal (.lp (λu v=>∃x0 x1 x2 x3,k x0 x1 x2 x3=z∧Sub (A x0 x1 x2 x3) u∧SLe v (S x0 x1 x2 x3)) κ) env st:=cZ ⟨_,_,_,_,h,h0,h1⟩
theorem Fn4{A:α0→α1→α2→α3→Env}{S:α0→α1→α2→α3→List AO}{L:Nat→α0→α1→α2→α3→β}{i0:α0}{i1:α1}{i2:α2}{i3:α3}(h:L n i0 i1 i2 i3=z)(h0:Sub (A i0 i1 i2 i3) env:=by exact Sb)(h1:SLe st (S i0 i1 i2 i3):=by exact Tv):WE P e .normal (.lp (λu v=>∃y,(∃x0 x1 x2 x3,L y x0 x1 x2 x3=z∧Sub (A x0 x1 x2 x3) u∧SLe v (S x0 x1 x2 x3))∧y<n+1) κ) env st:=cZ ⟨n,⟨_,_,_,_,h,h0,h1⟩,Nat.lt_succ_self n⟩
theorem Jn5(A:α0→α1→α2→α3→α4→Env)(S:α0→α1→α2→α3→α4→List AO){K:α0→α1→α2→α3→α4→β}{F:(α0→α1→α2→α3→α4→β)→β}(h:letk K F=z)(h1:∀k:α0→α1→α2→α3→α4→β,F k=z→WC P e x (.lp (λu v=>∃x0 x1 x2 x3 x4,k x0 x1 x2 x3 x4=z∧Sub (A x0 x1 x2 x3 x4) u∧SLe v (S x0 x1 x2 x3 x4)) κ) env st)(h2:∀x0 x1 x2 x3 x4,K x0 x1 x2 x3 x4=z→WC P e y κ (A x0 x1 x2 x3 x4) (S x0 x1 x2 x3 x4)):WC P e (.seq x y) κ env st:=by
 refine cH _ (h1 K h) ?_
 rintro u v ⟨x0,x1,x2,x3,x4,h,hs,hw⟩
 exact WC.sub hs (WC.weak hw (h2 x0 x1 x2 x3 x4 h))
theorem Ln5(A:α0→α1→α2→α3→α4→Env)(S:α0→α1→α2→α3→α4→List AO)(L:Nat→α0→α1→α2→α3→α4→β){N:Nat}{i0:α0}{i1:α1}{i2:α2}{i3:α3}{i4:α4}(h:L N i0 i1 i2 i3 i4=z)(hz:∀x0 x1 x2 x3 x4,L 0 x0 x1 x2 x3 x4=z→False)(hs':∀n x0 x1 x2 x3 x4,L (n+1) x0 x1 x2 x3 x4=z→WC P e x (.lp (λu v=>∃y,(∃x0 x1 x2 x3 x4,L y x0 x1 x2 x3 x4=z∧Sub (A x0 x1 x2 x3 x4) u∧SLe v (S x0 x1 x2 x3 x4))∧y<n+1) κ) (A x0 x1 x2 x3 x4) (S x0 x1 x2 x3 x4))(h0:Sub (A i0 i1 i2 i3 i4) env:=by exact Sb)(h1:SLe st (S i0 i1 i2 i3 i4):=by exact Tv):WC P e (.loop x) κ env st:=by
 refine db (λn u v=>∃x0 x1 x2 x3 x4,L n x0 x1 x2 x3 x4=z∧Sub (A x0 x1 x2 x3 x4) u∧SLe v (S x0 x1 x2 x3 x4)) (λn=>n) N ⟨_,_,_,_,_,h,h0,h1⟩ ?_
 rintro n u v ⟨x0,x1,x2,x3,x4,h,hs,hw⟩
 rcases n with _|n
 ·exact(hz x0 x1 x2 x3 x4 h).elim
 ·exact WC.sub hs (WC.weak hw (hs' n x0 x1 x2 x3 x4 h))
theorem En5{A:α0→α1→α2→α3→α4→Env}{S:α0→α1→α2→α3→α4→List AO}{k:α0→α1→α2→α3→α4→β}{i0:α0}{i1:α1}{i2:α2}{i3:α3}{i4:α4}(h:k i0 i1 i2 i3 i4=z)(h0:Sub (A i0 i1 i2 i3 i4) env:=by exact Sb)(h1:SLe st (S i0 i1 i2 i3 i4):=by exact Tv):WE P e .normal (.lp (λu v=>∃x0 x1 x2 x3 x4,k x0 x1 x2 x3 x4=z∧Sub (A x0 x1 x2 x3 x4) u∧SLe v (S x0 x1 x2 x3 x4)) κ) env st:=cZ ⟨_,_,_,_,_,h,h0,h1⟩
theorem Fn5{A:α0→α1→α2→α3→α4→Env}{S:α0→α1→α2→α3→α4→List AO}{L:Nat→α0→α1→α2→α3→α4→β}{i0:α0}{i1:α1}{i2:α2}{i3:α3}{i4:α4}(h:L n i0 i1 i2 i3 i4=z)(h0:Sub (A i0 i1 i2 i3 i4) env:=by exact Sb)(h1:SLe st (S i0 i1 i2 i3 i4):=by exact Tv):WE P e .normal (.lp (λu v=>∃y,(∃x0 x1 x2 x3 x4,L y x0 x1 x2 x3 x4=z∧Sub (A x0 x1 x2 x3 x4) u∧SLe v (S x0 x1 x2 x3 x4))∧y<n+1) κ) env st:=cZ ⟨n,⟨_,_,_,_,_,h,h0,h1⟩,Nat.lt_succ_self n⟩
theorem Ln7(A:α0→α1→α2→α3→α4→α5→α6→Env)(S:α0→α1→α2→α3→α4→α5→α6→List AO)(L:Nat→α0→α1→α2→α3→α4→α5→α6→β){N:Nat}{i0:α0}{i1:α1}{i2:α2}{i3:α3}{i4:α4}{i5:α5}{i6:α6}(h:L N i0 i1 i2 i3 i4 i5 i6=z)(hz:∀x0 x1 x2 x3 x4 x5 x6,L 0 x0 x1 x2 x3 x4 x5 x6=z→False)(hs':∀n x0 x1 x2 x3 x4 x5 x6,L (n+1) x0 x1 x2 x3 x4 x5 x6=z→WC P e x (.lp (λu v=>∃y,(∃x0 x1 x2 x3 x4 x5 x6,L y x0 x1 x2 x3 x4 x5 x6=z∧Sub (A x0 x1 x2 x3 x4 x5 x6) u∧SLe v (S x0 x1 x2 x3 x4 x5 x6))∧y<n+1) κ) (A x0 x1 x2 x3 x4 x5 x6) (S x0 x1 x2 x3 x4 x5 x6))(h0:Sub (A i0 i1 i2 i3 i4 i5 i6) env:=by exact Sb)(h1:SLe st (S i0 i1 i2 i3 i4 i5 i6):=by exact Tv):WC P e (.loop x) κ env st:=by
 refine db (λn u v=>∃x0 x1 x2 x3 x4 x5 x6,L n x0 x1 x2 x3 x4 x5 x6=z∧Sub (A x0 x1 x2 x3 x4 x5 x6) u∧SLe v (S x0 x1 x2 x3 x4 x5 x6)) (λn=>n) N ⟨_,_,_,_,_,_,_,h,h0,h1⟩ ?_
 rintro n u v ⟨x0,x1,x2,x3,x4,x5,x6,h,hs,hw⟩
 rcases n with _|n
 ·exact(hz x0 x1 x2 x3 x4 x5 x6 h).elim
 ·exact WC.sub hs (WC.weak hw (hs' n x0 x1 x2 x3 x4 x5 x6 h))
theorem Fn7{A:α0→α1→α2→α3→α4→α5→α6→Env}{S:α0→α1→α2→α3→α4→α5→α6→List AO}{L:Nat→α0→α1→α2→α3→α4→α5→α6→β}{i0:α0}{i1:α1}{i2:α2}{i3:α3}{i4:α4}{i5:α5}{i6:α6}(h:L n i0 i1 i2 i3 i4 i5 i6=z)(h0:Sub (A i0 i1 i2 i3 i4 i5 i6) env:=by exact Sb)(h1:SLe st (S i0 i1 i2 i3 i4 i5 i6):=by exact Tv):WE P e .normal (.lp (λu v=>∃y,(∃x0 x1 x2 x3 x4 x5 x6,L y x0 x1 x2 x3 x4 x5 x6=z∧Sub (A x0 x1 x2 x3 x4 x5 x6) u∧SLe v (S x0 x1 x2 x3 x4 x5 x6))∧y<n+1) κ) env st:=cZ ⟨n,⟨_,_,_,_,_,_,_,h,h0,h1⟩,Nat.lt_succ_self n⟩
theorem Jn8(A:α0→α1→α2→α3→α4→α5→α6→α7→Env)(S:α0→α1→α2→α3→α4→α5→α6→α7→List AO){K:α0→α1→α2→α3→α4→α5→α6→α7→β}{F:(α0→α1→α2→α3→α4→α5→α6→α7→β)→β}(h:letk K F=z)(h1:∀k:α0→α1→α2→α3→α4→α5→α6→α7→β,F k=z→WC P e x (.lp (λu v=>∃x0 x1 x2 x3 x4 x5 x6 x7,k x0 x1 x2 x3 x4 x5 x6 x7=z∧Sub (A x0 x1 x2 x3 x4 x5 x6 x7) u∧SLe v (S x0 x1 x2 x3 x4 x5 x6 x7)) κ) env st)(h2:∀x0 x1 x2 x3 x4 x5 x6 x7,K x0 x1 x2 x3 x4 x5 x6 x7=z→WC P e y κ (A x0 x1 x2 x3 x4 x5 x6 x7) (S x0 x1 x2 x3 x4 x5 x6 x7)):WC P e (.seq x y) κ env st:=by
 refine cH _ (h1 K h) ?_
 rintro u v ⟨x0,x1,x2,x3,x4,x5,x6,x7,h,hs,hw⟩
 exact WC.sub hs (WC.weak hw (h2 x0 x1 x2 x3 x4 x5 x6 x7 h))
theorem Jn13(A:α0→α1→α2→α3→α4→α5→α6→α7→α8→α9→α10→α11→α12→Env)(S:α0→α1→α2→α3→α4→α5→α6→α7→α8→α9→α10→α11→α12→List AO){K:α0→α1→α2→α3→α4→α5→α6→α7→α8→α9→α10→α11→α12→β}{F:(α0→α1→α2→α3→α4→α5→α6→α7→α8→α9→α10→α11→α12→β)→β}(h:letk K F=z)(h1:∀k:α0→α1→α2→α3→α4→α5→α6→α7→α8→α9→α10→α11→α12→β,F k=z→WC P e x (.lp (λu v=>∃x0 x1 x2 x3 x4 x5 x6 x7 x8 x9 x10 x11 x12,k x0 x1 x2 x3 x4 x5 x6 x7 x8 x9 x10 x11 x12=z∧Sub (A x0 x1 x2 x3 x4 x5 x6 x7 x8 x9 x10 x11 x12) u∧SLe v (S x0 x1 x2 x3 x4 x5 x6 x7 x8 x9 x10 x11 x12)) κ) env st)(h2:∀x0 x1 x2 x3 x4 x5 x6 x7 x8 x9 x10 x11 x12,K x0 x1 x2 x3 x4 x5 x6 x7 x8 x9 x10 x11 x12=z→WC P e y κ (A x0 x1 x2 x3 x4 x5 x6 x7 x8 x9 x10 x11 x12) (S x0 x1 x2 x3 x4 x5 x6 x7 x8 x9 x10 x11 x12)):WC P e (.seq x y) κ env st:=by
 refine cH _ (h1 K h) ?_
 rintro u v ⟨x0,x1,x2,x3,x4,x5,x6,x7,x8,x9,x10,x11,x12,h,hs,hw⟩
 exact WC.sub hs (WC.weak hw (h2 x0 x1 x2 x3 x4 x5 x6 x7 x8 x9 x10 x11 x12 h))
theorem Ln14(A:α0→α1→α2→α3→α4→α5→α6→α7→α8→α9→α10→α11→α12→α13→Env)(S:α0→α1→α2→α3→α4→α5→α6→α7→α8→α9→α10→α11→α12→α13→List AO)(L:Nat→α0→α1→α2→α3→α4→α5→α6→α7→α8→α9→α10→α11→α12→α13→β){N:Nat}{i0:α0}{i1:α1}{i2:α2}{i3:α3}{i4:α4}{i5:α5}{i6:α6}{i7:α7}{i8:α8}{i9:α9}{i10:α10}{i11:α11}{i12:α12}{i13:α13}(h:L N i0 i1 i2 i3 i4 i5 i6 i7 i8 i9 i10 i11 i12 i13=z)(hz:∀x0 x1 x2 x3 x4 x5 x6 x7 x8 x9 x10 x11 x12 x13,L 0 x0 x1 x2 x3 x4 x5 x6 x7 x8 x9 x10 x11 x12 x13=z→False)(hs':∀n x0 x1 x2 x3 x4 x5 x6 x7 x8 x9 x10 x11 x12 x13,L (n+1) x0 x1 x2 x3 x4 x5 x6 x7 x8 x9 x10 x11 x12 x13=z→WC P e x (.lp (λu v=>∃y,(∃x0 x1 x2 x3 x4 x5 x6 x7 x8 x9 x10 x11 x12 x13,L y x0 x1 x2 x3 x4 x5 x6 x7 x8 x9 x10 x11 x12 x13=z∧Sub (A x0 x1 x2 x3 x4 x5 x6 x7 x8 x9 x10 x11 x12 x13) u∧SLe v (S x0 x1 x2 x3 x4 x5 x6 x7 x8 x9 x10 x11 x12 x13))∧y<n+1) κ) (A x0 x1 x2 x3 x4 x5 x6 x7 x8 x9 x10 x11 x12 x13) (S x0 x1 x2 x3 x4 x5 x6 x7 x8 x9 x10 x11 x12 x13))(h0:Sub (A i0 i1 i2 i3 i4 i5 i6 i7 i8 i9 i10 i11 i12 i13) env:=by exact Sb)(h1:SLe st (S i0 i1 i2 i3 i4 i5 i6 i7 i8 i9 i10 i11 i12 i13):=by exact Tv):WC P e (.loop x) κ env st:=by
 refine db (λn u v=>∃x0 x1 x2 x3 x4 x5 x6 x7 x8 x9 x10 x11 x12 x13,L n x0 x1 x2 x3 x4 x5 x6 x7 x8 x9 x10 x11 x12 x13=z∧Sub (A x0 x1 x2 x3 x4 x5 x6 x7 x8 x9 x10 x11 x12 x13) u∧SLe v (S x0 x1 x2 x3 x4 x5 x6 x7 x8 x9 x10 x11 x12 x13)) (λn=>n) N ⟨_,_,_,_,_,_,_,_,_,_,_,_,_,_,h,h0,h1⟩ ?_
 rintro n u v ⟨x0,x1,x2,x3,x4,x5,x6,x7,x8,x9,x10,x11,x12,x13,h,hs,hw⟩
 rcases n with _|n
 ·exact(hz x0 x1 x2 x3 x4 x5 x6 x7 x8 x9 x10 x11 x12 x13 h).elim
 ·exact WC.sub hs (WC.weak hw (hs' n x0 x1 x2 x3 x4 x5 x6 x7 x8 x9 x10 x11 x12 x13 h))
theorem Jn15(A:α0→α1→α2→α3→α4→α5→α6→α7→α8→α9→α10→α11→α12→α13→α14→Env)(S:α0→α1→α2→α3→α4→α5→α6→α7→α8→α9→α10→α11→α12→α13→α14→List AO){K:α0→α1→α2→α3→α4→α5→α6→α7→α8→α9→α10→α11→α12→α13→α14→β}{F:(α0→α1→α2→α3→α4→α5→α6→α7→α8→α9→α10→α11→α12→α13→α14→β)→β}(h:letk K F=z)(h1:∀k:α0→α1→α2→α3→α4→α5→α6→α7→α8→α9→α10→α11→α12→α13→α14→β,F k=z→WC P e x (.lp (λu v=>∃x0 x1 x2 x3 x4 x5 x6 x7 x8 x9 x10 x11 x12 x13 x14,k x0 x1 x2 x3 x4 x5 x6 x7 x8 x9 x10 x11 x12 x13 x14=z∧Sub (A x0 x1 x2 x3 x4 x5 x6 x7 x8 x9 x10 x11 x12 x13 x14) u∧SLe v (S x0 x1 x2 x3 x4 x5 x6 x7 x8 x9 x10 x11 x12 x13 x14)) κ) env st)(h2:∀x0 x1 x2 x3 x4 x5 x6 x7 x8 x9 x10 x11 x12 x13 x14,K x0 x1 x2 x3 x4 x5 x6 x7 x8 x9 x10 x11 x12 x13 x14=z→WC P e y κ (A x0 x1 x2 x3 x4 x5 x6 x7 x8 x9 x10 x11 x12 x13 x14) (S x0 x1 x2 x3 x4 x5 x6 x7 x8 x9 x10 x11 x12 x13 x14)):WC P e (.seq x y) κ env st:=by
 refine cH _ (h1 K h) ?_
 rintro u v ⟨x0,x1,x2,x3,x4,x5,x6,x7,x8,x9,x10,x11,x12,x13,x14,h,hs,hw⟩
 exact WC.sub hs (WC.weak hw (h2 x0 x1 x2 x3 x4 x5 x6 x7 x8 x9 x10 x11 x12 x13 x14 h))
end
theorem RO{id:Nat}{l:List Oper}(rs:List AV)(tc:List (List Nat))(es:List Nat)(L:List (List AO))(plan:List (List Nat×List Nat×List Nat))(hm:P.follows .mixedOrders=true)(hok:gI l tc es plan=true)(hrs:Nat.beq rs.length l.length=true)(hes:es.all (λy=>Nat.blt y l.length)=true)
  (hobs:Obs P e l rs env (λc=>List.getD (st::L) c []) es 0 l plan)(h:WE P e .normal κ (FL env (λk=>Nat.blt k l.length) (bU l rs 0)) (List.getD (st::L) es.length []))(hnf:bl l=true:=by kernel_rfl):WC P e (.region id l.toArray true) κ env st:=kB rs tc es _ plan hm hok hrs hes rfl hobs h hnf
def uj(x:Nat):List Nat→List Nat
 |[]=> [x]
 |y::l=>bif Nat.beq x y then y::l else y::uj x l
def tcF(l:List Oper):List (List Nat):=l.foldl (λacc o=>acc++ [o.after.toList.foldl (λr e=>bif Region.binds .any e then(acc.getD e.on []).foldl (λr x=>uj x r) (uj e.on r) else r) []]) []
theorem RT{id:Nat}{l:List Oper}(rs:List AV)(es:List Nat)(L:List (List AO))(plan:List (List Nat×List Nat×List Nat))(hm:P.follows .mixedOrders=true)(hok:gI l (tcF l) es plan=true)(hrs:Nat.beq rs.length l.length=true)(hes:es.all (λy=>Nat.blt y l.length)=true)
  (hobs:Obs P e l rs env (λc=>List.getD (st::L) c []) es 0 l plan)(h:WE P e .normal κ (FL env (λk=>Nat.blt k l.length) (bU l rs 0)) (List.getD (st::L) es.length []))(hnf:bl l=true:=by kernel_rfl):WC P e (.region id l.toArray true) κ env st:=RO rs (tcF l) es L plan hm hok hrs hes hobs h hnf
theorem O1 [T:Tys P]{l:List Oper}{rs:List AV}{base:Env}{sts:Nat→List AO}{k d c:Nat}{o:Oper}{pk bk:List Nat}{up:Bool}{r:AV}(hd:o.dst=some d)(h:∀F:Env,je T.t e.n l.toArray (sts c) (il l rs base pk bk++F) o=some ((d,r)::(il l rs base pk bk++F)))(hr:rs[k]? =some r)(hu:up=false):ObC P e l rs base sts k o pk bk up [c]:=
 ⟨λF=>hG T.h (h F) (kq hd hr (by rw[hu];rfl)),trivial⟩
theorem O2 [T:Tys P]{l:List Oper}{rs:List AV}{base:Env}{sts:Nat→List AO}{k d c c':Nat}{o:Oper}{pk bk:List Nat}{r:AV}(hd:o.dst=some d)(h:∀F:Env,je T.t e.n l.toArray (sts c) (il l rs base pk bk++F) o=some ((d,r)::(il l rs base pk bk++F)))(hr:rs[k]? =some r)(hu:c'=c):Ob P e l rs base sts k o pk bk c c':=
 λF=>hG T.h (h F) (kq hd hr (by rw[hu]))
def sD{α:Type}:List α→Option (List α)
 |[]=>some []
 |a::l=>match sD l with
  |some l'=>some (a::l')
  |none=>none
theorem pg{α:Type}:∀{l l':List α},sD l=some l'→l=l'
 |[],l',h=>inS h
 |a::l,l',h=>by
  dsimp only[sD] at h
  split at h
  ·rename_i hl;rw[pg hl];exact inS h
  ·cases h
def ue:AO→Option AO
 | .row T cs=>match sD cs with
  |some c=>some (.row T c)
  |none=>none
 |o=>some o
theorem sC{o o':AO}(h:ue o=some o'):o=o':=by
 cases o with
 |row T cs=>
  dsimp only[ue] at h
  split at h
  ·rename_i hl;rw[pg hl];exact inS h
  ·cases h
 |_=>exact inS h
def sB:List AO→Option (List AO)
 |[]=>some []
 |a::l=>match ue a,sB l with
  |some a',some l'=>some (a'::l')
  |_,_=>none
theorem pf:∀{l l':List AO},sB l=some l'→l=l'
 |[],l',h=>inS h
 |a::l,l',h=>by
  dsimp only[sB] at h
  split at h
  ·rename_i ha hl;rw[sC ha,pf hl];exact inS h
  ·cases h
theorem St{st':List AO}(h:sB st=some st')(k:WL P e ops rest env st' R):WL P e ops rest env st R:=WL.st (pf h) k
end
end Go.Sk
namespace Go.Sk
open Go.RowKit (Below)
section
variable{P:Program}{e:En}{l:List Oper}{rs:List AV}{base:Env}{sts:List Bool→List AO→Prop}{es:List Nat}
end
end Go.Sk
namespace Go.Sk
open Go.RowKit (Below)
theorem Y1{a0 b:Prop}(k:b)(ha0:a0:=by exact O1 rfl (λ_=>rfl) rfl rfl):a0∧b:=⟨ha0,k⟩
theorem Y2{a0 a1 b:Prop}(k:b)(ha0:a0:=by exact O1 rfl (λ_=>rfl) rfl rfl)(ha1:a1:=by exact O1 rfl (λ_=>rfl) rfl rfl):a0∧a1∧b:=⟨ha0,ha1,k⟩
theorem Y3{a0 a1 a2 b:Prop}(k:b)(ha0:a0:=by exact O1 rfl (λ_=>rfl) rfl rfl)(ha1:a1:=by exact O1 rfl (λ_=>rfl) rfl rfl)(ha2:a2:=by exact O1 rfl (λ_=>rfl) rfl rfl):a0∧a1∧a2∧b:=⟨ha0,ha1,ha2,k⟩
theorem Y4{a0 a1 a2 a3 b:Prop}(k:b)(ha0:a0:=by exact O1 rfl (λ_=>rfl) rfl rfl)(ha1:a1:=by exact O1 rfl (λ_=>rfl) rfl rfl)(ha2:a2:=by exact O1 rfl (λ_=>rfl) rfl rfl)(ha3:a3:=by exact O1 rfl (λ_=>rfl) rfl rfl):a0∧a1∧a2∧a3∧b:=⟨ha0,ha1,ha2,ha3,k⟩
theorem Y5{a0 a1 a2 a3 a4 b:Prop}(k:b)(ha0:a0:=by exact O1 rfl (λ_=>rfl) rfl rfl)(ha1:a1:=by exact O1 rfl (λ_=>rfl) rfl rfl)(ha2:a2:=by exact O1 rfl (λ_=>rfl) rfl rfl)(ha3:a3:=by exact O1 rfl (λ_=>rfl) rfl rfl)(ha4:a4:=by exact O1 rfl (λ_=>rfl) rfl rfl):a0∧a1∧a2∧a3∧a4∧b:=⟨ha0,ha1,ha2,ha3,ha4,k⟩
theorem Y7{a0 a1 a2 a3 a4 a5 a6 b:Prop}(k:b)(ha0:a0:=by exact O1 rfl (λ_=>rfl) rfl rfl)(ha1:a1:=by exact O1 rfl (λ_=>rfl) rfl rfl)(ha2:a2:=by exact O1 rfl (λ_=>rfl) rfl rfl)(ha3:a3:=by exact O1 rfl (λ_=>rfl) rfl rfl)(ha4:a4:=by exact O1 rfl (λ_=>rfl) rfl rfl)(ha5:a5:=by exact O1 rfl (λ_=>rfl) rfl rfl)(ha6:a6:=by exact O1 rfl (λ_=>rfl) rfl rfl):a0∧a1∧a2∧a3∧a4∧a5∧a6∧b:=⟨ha0,ha1,ha2,ha3,ha4,ha5,ha6,k⟩
theorem Y8{a0 a1 a2 a3 a4 a5 a6 a7 b:Prop}(k:b)(ha0:a0:=by exact O1 rfl (λ_=>rfl) rfl rfl)(ha1:a1:=by exact O1 rfl (λ_=>rfl) rfl rfl)(ha2:a2:=by exact O1 rfl (λ_=>rfl) rfl rfl)(ha3:a3:=by exact O1 rfl (λ_=>rfl) rfl rfl)(ha4:a4:=by exact O1 rfl (λ_=>rfl) rfl rfl)(ha5:a5:=by exact O1 rfl (λ_=>rfl) rfl rfl)(ha6:a6:=by exact O1 rfl (λ_=>rfl) rfl rfl)(ha7:a7:=by exact O1 rfl (λ_=>rfl) rfl rfl):a0∧a1∧a2∧a3∧a4∧a5∧a6∧a7∧b:=⟨ha0,ha1,ha2,ha3,ha4,ha5,ha6,ha7,k⟩
theorem Y9{a0 a1 a2 a3 a4 a5 a6 a7 a8 b:Prop}(k:b)(ha0:a0:=by exact O1 rfl (λ_=>rfl) rfl rfl)(ha1:a1:=by exact O1 rfl (λ_=>rfl) rfl rfl)(ha2:a2:=by exact O1 rfl (λ_=>rfl) rfl rfl)(ha3:a3:=by exact O1 rfl (λ_=>rfl) rfl rfl)(ha4:a4:=by exact O1 rfl (λ_=>rfl) rfl rfl)(ha5:a5:=by exact O1 rfl (λ_=>rfl) rfl rfl)(ha6:a6:=by exact O1 rfl (λ_=>rfl) rfl rfl)(ha7:a7:=by exact O1 rfl (λ_=>rfl) rfl rfl)(ha8:a8:=by exact O1 rfl (λ_=>rfl) rfl rfl):a0∧a1∧a2∧a3∧a4∧a5∧a6∧a7∧a8∧b:=⟨ha0,ha1,ha2,ha3,ha4,ha5,ha6,ha7,ha8,k⟩
theorem X2a{a0 a1 b:Prop}(k:b)(h0:a0:=by exact O2 rfl (λ_=>rfl) rfl rfl)(h1:a1:=by exact O2 rfl (λ_=>rfl) rfl rfl):(a0∧a1∧True)∧b:=⟨⟨h0,h1,trivial⟩,k⟩
theorem X2b{a00 a01 a10 a11 b:Prop}(k:b)(ha00:a00:=by exact O2 rfl (λ_=>rfl) rfl rfl)(ha01:a01:=by exact O2 rfl (λ_=>rfl) rfl rfl)(ha10:a10:=by exact O2 rfl (λ_=>rfl) rfl rfl)(ha11:a11:=by exact O2 rfl (λ_=>rfl) rfl rfl):(a00∧a01∧True)∧(a10∧a11∧True)∧b:=⟨⟨ha00,ha01,trivial⟩,⟨ha10,ha11,trivial⟩,k⟩
theorem X2c{a00 a01 a10 a11 a20 a21 b:Prop}(k:b)(ha00:a00:=by exact O2 rfl (λ_=>rfl) rfl rfl)(ha01:a01:=by exact O2 rfl (λ_=>rfl) rfl rfl)(ha10:a10:=by exact O2 rfl (λ_=>rfl) rfl rfl)(ha11:a11:=by exact O2 rfl (λ_=>rfl) rfl rfl)(ha20:a20:=by exact O2 rfl (λ_=>rfl) rfl rfl)(ha21:a21:=by exact O2 rfl (λ_=>rfl) rfl rfl):(a00∧a01∧True)∧(a10∧a11∧True)∧(a20∧a21∧True)∧b:=⟨⟨ha00,ha01,trivial⟩,⟨ha10,ha11,trivial⟩,⟨ha20,ha21,trivial⟩,k⟩
theorem X2d{a00 a01 a10 a11 a20 a21 a30 a31 b:Prop}(k:b)(ha00:a00:=by exact O2 rfl (λ_=>rfl) rfl rfl)(ha01:a01:=by exact O2 rfl (λ_=>rfl) rfl rfl)(ha10:a10:=by exact O2 rfl (λ_=>rfl) rfl rfl)(ha11:a11:=by exact O2 rfl (λ_=>rfl) rfl rfl)(ha20:a20:=by exact O2 rfl (λ_=>rfl) rfl rfl)(ha21:a21:=by exact O2 rfl (λ_=>rfl) rfl rfl)(ha30:a30:=by exact O2 rfl (λ_=>rfl) rfl rfl)(ha31:a31:=by exact O2 rfl (λ_=>rfl) rfl rfl):(a00∧a01∧True)∧(a10∧a11∧True)∧(a20∧a21∧True)∧(a30∧a31∧True)∧b:=⟨⟨ha00,ha01,trivial⟩,⟨ha10,ha11,trivial⟩,⟨ha20,ha21,trivial⟩,⟨ha30,ha31,trivial⟩,k⟩
theorem X3a{a0 a1 a2 b:Prop}(k:b)(h0:a0:=by exact O2 rfl (λ_=>rfl) rfl rfl)(h1:a1:=by exact O2 rfl (λ_=>rfl) rfl rfl)(h2:a2:=by exact O2 rfl (λ_=>rfl) rfl rfl):(a0∧a1∧a2∧True)∧b:=⟨⟨h0,h1,h2,trivial⟩,k⟩
theorem X3b{a00 a01 a02 a10 a11 a12 b:Prop}(k:b)(ha00:a00:=by exact O2 rfl (λ_=>rfl) rfl rfl)(ha01:a01:=by exact O2 rfl (λ_=>rfl) rfl rfl)(ha02:a02:=by exact O2 rfl (λ_=>rfl) rfl rfl)(ha10:a10:=by exact O2 rfl (λ_=>rfl) rfl rfl)(ha11:a11:=by exact O2 rfl (λ_=>rfl) rfl rfl)(ha12:a12:=by exact O2 rfl (λ_=>rfl) rfl rfl):(a00∧a01∧a02∧True)∧(a10∧a11∧a12∧True)∧b:=⟨⟨ha00,ha01,ha02,trivial⟩,⟨ha10,ha11,ha12,trivial⟩,k⟩
theorem rc{P:Program}{e:En}[T:Tys P]{l:List Oper}{rs:List AV}{base:Env}{sts:Nat→List AO}{k d c c':Nat}{o:Oper}{pk bk:List Nat}{a b:Bool}(hb:a=b)(h:∀F:Env,hZ T.t e.n l.toArray (sts c) 1 [o] (il l rs base pk bk++F)=some ([],(d, .d (.v (.bool a)))::(il l rs base pk bk++F)):=by exact λ_=>rfl)(hd:o.dst=some d:=by exact rfl)(hr:rs[k]? =some (.d (.v (.bool b))):=by exact rfl)(hu:sts c=sts c':=by exact rfl):Ob P e l rs base sts k o pk bk c c':=
 λF=>Rl 1 (h F) (WL.cast d (by simp[aM]) (uC (Cb hb)) (rP hd hr hu))
theorem zo{a b:Prop}(h:a)(k:b):(a∧True)∧b:=⟨⟨h,trivial⟩,k⟩
abbrev p00:List Nat×List Nat×List Nat:=([],[],[0])
abbrev p01(y0:Nat):List Nat×List Nat×List Nat:=([],[y0],[0])
abbrev q01(y0 z:Nat):List Nat×List Nat×List Nat:=([],[y0],[z])
abbrev p10(x0:Nat):List Nat×List Nat×List Nat:=([x0],[],[0])
abbrev q10(x0 z:Nat):List Nat×List Nat×List Nat:=([x0],[],[z])
abbrev p11(x0 y0:Nat):List Nat×List Nat×List Nat:=([x0],[y0],[0])
abbrev q11(x0 y0 z:Nat):List Nat×List Nat×List Nat:=([x0],[y0],[z])
abbrev p20(x0 x1:Nat):List Nat×List Nat×List Nat:=([x0,x1],[],[0])
abbrev q20(x0 x1 z:Nat):List Nat×List Nat×List Nat:=([x0,x1],[],[z])
abbrev p30(x0 x1 x2:Nat):List Nat×List Nat×List Nat:=([x0,x1,x2],[],[0])
abbrev u01(y0:Nat):List Nat×List Nat×List Nat:=([],[y0],[0,1])
abbrev u10(x0:Nat):List Nat×List Nat×List Nat:=([x0],[],[0,1])
abbrev v10(x0:Nat):List Nat×List Nat×List Nat:=([x0],[],[1,2])
abbrev u20(x0 x1:Nat):List Nat×List Nat×List Nat:=([x0,x1],[],[0,1])
theorem Z6{α β γ δ ε ζ:Type}{a:α}{b:β}{c:γ}{d:δ}{e:ε}{f:ζ}:a=a∧b=b∧c=c∧d=d∧e=e∧f=f:=⟨rfl,rfl,rfl,rfl,rfl,rfl⟩
theorem Z2{α β:Type}{a:α}{b:β}:a=a∧b=b:=⟨rfl,rfl⟩
theorem Z4{α β γ δ:Type}{a:α}{b:β}{c:γ}{d:δ}:a=a∧b=b∧c=c∧d=d:=⟨rfl,rfl,rfl,rfl⟩
theorem Z3{α β γ:Type}{a:α}{b:β}{c:γ}:a=a∧b=b∧c=c:=⟨rfl,rfl,rfl⟩
theorem wF{P:Program}{e:En}{ops:Array Oper}{rest:List Oper}{env:Env}{st:List AO}{R:Env→List AO→Prop}{o:Oper}{d:Nat}{f:FuncId}{c:Call}{x:Operand}{first caps asz:List AV}{ds:List D}{y:D}(a:o.op= .call c∧c.callee= .value x∧opv env x=some (.fn (.func f) first caps)∧cP env c.args.toList=some asz)(hc:Pu P f ds y)(hl:Les (first++asz++caps) (ds.map .d))
  (b:o.guard=none∧o.dst=some d∧Nat.ble (d+1) e.n=true)(h:WL P e ops rest ((d, .d y)::env) st R):WL P e ops (o::rest) env st R:=WL.fn a.1 a.2.1 a.2.2.1 a.2.2.2 hc hl (Wt.none b.1) b.2.1 b.2.2 h
theorem sS{P:Program}{e:En}{ops:Array Oper}{rest:List Oper}{env:Env}{st:List AO}{R:Env→List AO→Prop}{T:TypeId}{x y:Operand}{id off n:Nat}{T':TypeId}{cs:List AV}{r:AV}{rs:List AV}{ty:TypeId}{pos:String}{after:Array Edge}(a:opv env x=some (.pt id off)∧st[id]? =some (.row T' cs)∧opv env y=some r∧r.okc=true∧r.cells=rs∧rs.all AV.ok1=true)
  (hn:bz P T=some n)(b:rs.length=n∧Nat.ble (off+n) cs.length=true)(h:WL P e ops rest env (st.set id (.row T' (cs.take off++rs++cs.drop (off+n)))) R):WL P e ops (⟨none, .store T x y,ty,pos,after,none⟩::rest) env st R:=
 WL.s0 (sR a.1 a.2.1 a.2.2.1 a.2.2.2.1 a.2.2.2.2.1 a.2.2.2.2.2 hn b.1 b.2) (Wt.none rfl) rfl h
section
variable{P:Program}{e:En}{ops:Array Oper}{l:List Oper}{st:List AO}{env env0 env1:Env}{R:Env→List AO→Prop}
theorem Nn{t d:Nat}{b z:Bool}(n:Nat)(h1:env1=env1.take n++((t, .d (.v (.bool b)))::env0):=by exact rfl)(h2:f' (env1.take n) env0=true:=by exact rfl)(h3:Env.get (env1.take n) d=some (.d (.v (.bool z))):=by exact rfl):WL P e ops [] env1 st (λenv' st'=>st'=st∧GrpJ env0 t b d z env'):=WL.nil ⟨rfl,env1.take n,h1,h2,h3⟩
theorem Rn [T:Tys P]{t d:Nat}{b z:Bool}(k n:Nat)(h:hZ T.t e.n ops st k l env=some ([],env1):=by exact rfl)(h1:env1=env1.take n++((t, .d (.v (.bool b)))::env0):=by exact rfl)(h2:f' (env1.take n) env0=true:=by exact rfl)(h3:Env.get (env1.take n) d=some (.d (.v (.bool z))):=by exact rfl):WL P e ops l env st (λenv' st'=>st'=st∧GrpJ env0 t b d z env'):=Rl k h (Nn n h1 h2 h3)
theorem On [T:Tys P]{t d:Nat}{b z z':Bool}(k n:Nat)(hz:some z'=some z)(h:hZ T.t e.n ops st k l env=some ([],env1):=by exact rfl)(h1:env1=env1.take n++((t, .d (.v (.bool b)))::env0):=by exact rfl)(h2:f' (env1.take n) env0=true:=by exact rfl)(h3:Env.get (env1.take n) d=some (.d (.v (.bool z'))):=by exact rfl):WL P e ops l env st (λenv' st'=>st'=st∧GrpJ env0 t b d z env'):=Rn k n h h1 h2 (h3.trans (by rw[inS hz]))
theorem AG [T:Tys P]{env2:Env}(k t d a n:Nat){x y:Bool}(hr:WL P e ops (l.drop k) ((d, .d (.v (.bool (x&&y))))::env) st R)(hx:env.get t=some (.d (.v (.bool x))):=by exact rfl)(h:hZ T.t e.n ops st a (l.take k) ((t, .d (.v (.bool true)))::env)=some ([],env1):=by exact rfl)(h1:env1=env1.take n++((t, .d (.v (.bool true)))::env):=by exact rfl)(h2:f' (env1.take n) env=true:=by exact rfl)(h3:Env.get (env1.take n) d=some (.d (.v (.bool y))):=by exact rfl)
  (g:hZ T.t e.n ops st a (l.take k) ((t, .d (.v (.bool false)))::env)=some ([],env2):=by exact rfl)(g1:env2=env2.take n++((t, .d (.v (.bool false)))::env):=by exact rfl)(g2:f' (env2.take n) env=true:=by exact rfl)(g3:Env.get (env2.take n) d=some (.d (.v (.bool false))):=by exact rfl):WL P e ops l env st R:=WL.and k hx (λ_=>Rn a n h h1 h2 h3) (Rn a n g g1 g2 g3) hr
theorem OG [T:Tys P]{env2:Env}(k t d a n:Nat){x y:Bool}(hr:WL P e ops (l.drop k) ((d, .d (.v (.bool (x||y))))::env) st R)(hx:env.get t=some (.d (.v (.bool x))):=by exact rfl)(h:hZ T.t e.n ops st a (l.take k) ((t, .d (.v (.bool false)))::env)=some ([],env1):=by exact rfl)(h1:env1=env1.take n++((t, .d (.v (.bool false)))::env):=by exact rfl)(h2:f' (env1.take n) env=true:=by exact rfl)(h3:Env.get (env1.take n) d=some (.d (.v (.bool y))):=by exact rfl)
  (g:hZ T.t e.n ops st a (l.take k) ((t, .d (.v (.bool true)))::env)=some ([],env2):=by exact rfl)(g1:env2=env2.take n++((t, .d (.v (.bool true)))::env):=by exact rfl)(g2:f' (env2.take n) env=true:=by exact rfl)(g3:Env.get (env2.take n) d=some (.d (.v (.bool true))):=by exact rfl):WL P e ops l env st R:=WL.or k hx (λ_=>Rn a n h h1 h2 h3) (Rn a n g g1 g2 g3) hr
theorem Gg(k t d:Nat)(z:Bool){x:Bool}{β:Type}{a b w:β}(hb:(bif x then a else b)=w)(h1:a=w→WL P e ops (l.take k) ((t, .d (.v (.bool true)))::env) st λenv' st'=>st'=st∧GrpJ env t true d z env')(h0:b=w→WL P e ops (l.take k) ((t, .d (.v (.bool false)))::env) st λenv' st'=>st'=st∧GrpJ env t false d z env')
  (hr:WL P e ops (l.drop k) ((d, .d (.v (.bool z)))::env) st R)(hx:env.get t=some (.d (.v (.bool x))):=by exact rfl):WL P e ops l env st R:=WL.grp k hx (λhh=>h1 (dP hb hh)) (λhh=>h0 (dQ hb hh)) hr
end
theorem fI{P:Program}{f:FuncId}{fn:Func}{c:Code}{asz:List D}{x:D}{n:Nat}(hf:P.funcs[f]? =some fn)(h:∀φ w,WC P ⟨[],φ,w,n,none,none⟩ c (.fin fn (λr' st'=>r'= .d x∧st'=[])) (dX 0 (asz.map .d)) [])(h1:(fn.name== "runtime.NumGoroutine")=false:=by kernel_rfl)
  (h2:fn.body=some c:=by exact rfl)(h3:fn.ntmps=n:=by exact rfl)(h4:Nat.ble (asz.map AV.d).length n=true:=by exact rfl):Pu P f asz x:=rn hf h1 h2 h3 h4 h
theorem cI{P:Program}{f:FuncId}{fn:Func}{c:Code}{asz:List AV}{st:List AO}{Q:AV→List AO→Prop}{n:Nat}(hf:P.funcs[f]? =some fn)(h:∀m φ w,m.length=st.length→WC P ⟨m,φ,w,n,none,none⟩ c (.fin fn Q) (dX 0 asz) st)(h1:(fn.name== "runtime.NumGoroutine")=false:=by kernel_rfl)
  (h2:fn.body=some c:=by exact rfl)(h3:fn.ntmps=n:=by exact rfl)(h4:Nat.ble asz.length n=true:=by exact rfl):Ctr P f asz st Q:=lh hf h1 h2 h3 h4 h
end Go.Sk
