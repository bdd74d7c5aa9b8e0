/-
  A slice of our own is put behind the others of a slice of slices: the family grows by one.
-/
import Derived.Maps.RangeRun
import Derived.Laws.IdiomStrings
import Derived.LaidMore
import Derived.OpenShut
import Derived.Stop.Joined
import Derived.ChangeArms
import Derived.ChangeSame
import Derived.Test.YtkbpoeellidgeaaGreatDoorSb
set_option linter.unusedVariables false
set_option linter.unusedSimpArgs false
set_option linter.unusedSectionVars false
set_option linter.unnecessarySimpa false
namespace Go.Sk
open Go.RowKit (Below)
theorem ia{m φ w st k}(hs:SR m φ st w):∀{xs:List AV}{vs:List Value},RAs m φ w xs vs→(xs.all λx=>x.okS st&&Nat.beq x.cells.length k)=true→(∀v∈vs,v.cells.size=k)∧RAs m φ w (xs.map AV.cells).flatten (vs.map (·.cells.toList)).flatten
 |[],vs,h,_=>by simp only[RAs] at h;subst h;simp[RAs]
 |x::xs,vs,h,hk=>by
  simp only[RAs] at h
  obtain⟨c,cs,rfl,h2,h3⟩:=h
  simp only[List.all_cons,Bool.and_eq_true] at hk
  obtain⟨⟨k1,k2⟩,k3⟩:=hk
  have k2:=nbE k2
  obtain⟨us,g1,g2⟩:=jW hs h2 k1
  obtain⟨i1,i2⟩:=ia hs h3 k3
  have hl:=aC g2
  refine⟨λv hv=>?_,?_⟩
  ·rcases List.mem_cons.1 hv with rfl|hv
   ·rw[g1];simp;omega
   ·exact i1 v hv
  ·simp only[List.map_cons,List.flatten_cons,g1]
   exact aH g2 i2
section
variable{P:Program}{env:Env}{st:List AO}{dst:Option Tmp}{ty:TypeId}{pos:String}{after:Array Edge}{guard:Option (Nat×Bool)}
theorem ma{T e k by_ len:Nat}{zs:List Value}{parts:Array (Nat×Operand)}{xs:List AV}(hT:da P T=some (e,k,by_))(hz:bn P e=some zs)(hzl:zs.length=k)(hlen:len*k≤16777216)(h0:0<len*k)(hidx:parts.toList.map (·.1)=List.range len)
  (hx:dl env (parts.toList.map (·.2))=some xs)(hok:(xs.all λx=>x.okS st&&Nat.beq x.cells.length k)=true)(hm:len≤maxLen):
  NewOs P env st ⟨dst, .buildSlice T len parts,ty,pos,after,guard⟩ e k (xs.map AV.cells):=λm φ a w hs he=>by
 obtain⟨i,ht,hi,rfl,rfl⟩:=gp hT
 obtain⟨z,hz1,hz2⟩:=fp hz hi
 have hpl:parts.toList.length=len:=by have:=congrArg List.length hidx;simpa using this
 have hxl:xs.length=len:=by have:=dQ hx;simp at this hpl;omega
 have h1:=gM he hx
 obtain⟨c1,c2⟩:=ia hs h1 hok
 let vss:List Value:=(parts.toList.map λ(j,x)=>(j,a.eval x)).map (·.2)
 have hvl:vss.length=len:=by simp[vss];simpa using hpl
 let cells0:Array Value:=(Array.range (len*i.size)).map (z.cells[·%z.cells.size]!)
 have hc0:cells0.size=len*i.size:=by simp[cells0]
 have hfill:Instr.fill (λj=>some (j*i.size,i.size)) cells0 (parts.toList.map λ(j,x)=>(j,a.eval x))=some (vss.map (·.cells.toList)).flatten.toArray:=by
  have e:=gD (_β:=Unit) parts.toList a.eval (by rw[hidx,hpl])
  rw[e]
  have e3:(parts.toList.map λp=>a.eval p.2)=vss:=by simp[vss]
  rw[e3,lk vss 0 cells0 c1 (by rw[hc0,hvl];simp)]
  simp[hvl,List.drop_of_length_le,hc0]
 have hn:¬(16777216<len*i.size):=oM
 have h00:¬(len*i.size=0):=oM
 have hpe:parts.map (λ(j,x)=>(j,a.eval x))=(parts.toList.map λ(j,x)=>(j,a.eval x)).toArray:=by
  apply Array.toList_inj.mp;simp
 have hrun:(execOp a.eval ⟨dst, .buildSlice T len parts,ty,pos,after,guard⟩).run P w= .ok (.value (.slice (some ⟨w.heap.size,0,none⟩) len len)) (w.alloc (.cells (vss.map (·.cells.toList)).flatten.toArray e)):=by
  have hz':(zeroValue e).run P w= .ok z w:=by simp[zeroValue,typeInfo,hi,hz1]
  have hso:(sizeOf e).run P w= .ok i.size w:=by simp[sizeOf,typeInfo,hi]
  simp only[execOp,Instr.buildSlice,Sem.run_bind,run_underlying ht,Result.andThen_ok,hso,gt_iff_lt,show(2:Nat)^24=16777216 from rfl,if_neg hn,Sem.run_pure,if_neg h00,hz',hpe]
  have hfill':Instr.fill (λj=>some (j*i.size,i.size)) (Array.map (λx=>z.cells[x%z.cells.size]!) (Array.range (len*i.size))) (parts.toList.map λx=>(x.1,a.eval x.2))=some (vss.map (·.cells.toList)).flatten.toArray:=hfill
  rw[hfill']
  simp[newRow]
 obtain⟨k1,k2,k3⟩:Ev m φ w (m++ [.tok 0 (.slice (some ⟨w.heap.size,0,none⟩) len len)]) φ (w.alloc (.cells (vss.map (·.cells.toList)).flatten.toArray e))∧SR (m++ [.tok 0 (.slice (some ⟨w.heap.size,0,none⟩) len len)]) φ (st++ [.os e i.size 0 (xs.map AV.cells)]) (w.alloc (.cells (vss.map (·.cells.toList)).flatten.toArray e))∧True:=by
  have hF:=Fz.alloc hs (.cells (vss.map (·.cells.toList)).flatten.toArray e)
  have hk:∀b,b<w.heap.size→(w.alloc (.cells (vss.map (·.cells.toList)).flatten.toArray e)).heap[b]? =w.heap[b]? :=λb hb=>bT hb
  have hnew:∀b,(Cz.tok 0 (.slice (some ⟨w.heap.size,0,none⟩) len len)).has b→w.heap.size≤b:=λb hb=>by simp only[Cz.has,Value.ownBlock,au] at hb;omega
  have hlen2:(vss.map (·.cells.toList)).flatten.length=len*i.size:=by
   have:=aC c2
   have h2:∀l:List AV,(l.all λx=>x.okS st&&Nat.beq x.cells.length i.size)=true→(l.map AV.cells).flatten.length=l.length*i.size:=by
    intro l
    induction l with
    |nil=>simp
    |cons x l ih=>
     intro h
     simp only[List.all_cons,Bool.and_eq_true] at h
     have:=nbE h.1.2
     simp only[List.map_cons,List.flatten_cons,List.length_append,List.length_cons,ih h.2,Nat.succ_mul];omega
   rw[h2 xs hok,hxl] at this
   exact this
  refine⟨Ev.push hs hF hk sM rfl rfl rfl hnew,SR.push hs hF hk sM ?_ hnew,trivial⟩
  refine⟨_,(vss.map (·.cells.toList)).flatten,rfl,⟨by rw[hlen2];simp[hxl], .inr ⟨w.heap.size,len,_,by simp[hxl],Nat.zero_le _,heap_alloc_new w _,by simp[hxl],hm,by simpa using hlen2,?_⟩⟩,RAs.mono (Pre.append m _) hF _ _ c2,λf hf=>?_,λb hb=>?_⟩
  ·rw[List.take_of_length_le (by simp only[List.length_map,hxl];simpa using Nat.le_of_eq hlen2)]
  ·obtain⟨x,hx1,rfl⟩:=List.mem_map.1 hf
   have:=List.all_eq_true.1 hok x hx1
   simp only[Bool.and_eq_true] at this
   exact nbE this.2
  ·simp only[Value.ownBlock,au] at hb
   exact hs.lt b oM
 exact⟨_,_,hrun,k1,k2,(Below.refl _ _).alloc (Nat.le_refl _) _,λb hb=>by simp only[Value.ownBlock,au] at hb;omega⟩
theorem sn{T _T' e k by_:Nat}{zs:List Value}{s x:Operand}{id ver:Nat}{es fs:List (List AV)}{xr:AV}{c:Call}(hT:da P T=some (e,k,by_))(hz:bn P e=some zs)(hzl:zs.length=k)(hk:0<k)
  (hc:c=⟨.builtin .append, #[s,x], #[T,T]⟩)(hs:opv env s=some (.os id ver))(hi:st[id]? =some (.os e k ver es))(hx:opv env x=some xr)(hsrc:Src st xr k fs)(hf1:fs.flatten.all (AV.ok1S st)=true)(hfk:∀f∈fs,f.length=k)
  (h63:es.length+fs.length≤maxLen)(hby:(es.length+fs.length)*by_≤140737488355328):
  fk P env st ⟨dst, .call c,ty,pos,after,guard⟩ (.os id (ver+1)) (st.set id (.os e k (ver+1) (es++fs))):=λm φ a w hsr he=>by
 obtain⟨y,xs,g1,g2,g3,g4,g5,g6⟩:=nk hsr he hs hi
 obtain⟨news,n1,n2,n3⟩:=hsrc m φ w _ hsr (bi he hx)
 obtain⟨v',w',r1,r2,r3,r4⟩:=gB (P:=P) (ty:=ty) hT hz hzl hk g3 n2 (lF hsr n1 hf1) n3 h63 hby
 have hF:Fz φ w φ w':=λb off cc q1 q2=>⟨q1,by
  have hlt:=c6 hsr q1
  have hne:some b≠y.ownBlock:=λe=>by have:=g6 b e.symm;omega
  rw[bv (r3.block b hlt hne)];exact q2⟩
 have hobj:OR (m.set id (.tok (ver+1) v')) φ w' (.os e k (ver+1) (es++fs)) (.tok (ver+1) v'):=by
  have hpre:Pre m (m.set id (.tok (ver+1) v')):=λi d hd=>by
   by_cases hii:i=id
   ·subst hii
    rw[g1] at hd
    simp only[au] at hd
    subst hd
    exact⟨_,by rw[List.getElem?_set_self (dy g1)],is _ _ _⟩
   ·exact⟨d,by rw[List.getElem?_set_ne (Ne.symm hii)];exact hd,Cz.le_refl d⟩
  refine⟨v',xs++news,rfl,by rw[List.length_append];exact r2,?_,λf hf=>?_,λb hb=>?_⟩
  ·rw[List.flatten_append];exact aH (RAs.mono hpre hF _ _ g4) (RAs.mono hpre hF _ _ n1)
  ·rcases List.mem_append.1 hf with h|h
   ·exact g5 f h
   ·exact hfk f h
  ·rcases r4 with h|h
   ·exact g6 b (by rw[←h];exact hb)
   ·rw[h] at hb;simp only[au] at hb;exact hsr.lt b oM
 obtain⟨k1,k2⟩:=ig (o':= .os e k (ver+1) (es++fs)) (c':= .tok (ver+1) v') (φ':=φ) hsr hi rfl g1 (is _ _ _) r3.os r3.tape r3.output r3.size
  (λb hb hn=>⟨r3.block b hb (λe=>hn (by simp[Cz.has,←e])),rfl⟩) hF (λb hb=>hsr.lt b (Nat.le_trans r3.size hb))
  (λb hb=>by
   rcases r4 with h|h
   ·exact .inl (by simpa[Cz.has,h] using hb)
   ·right;simp only[Cz.has,h,au] at hb;omega) hobj
 refine⟨v',w',_,φ, .inl ?_,k1,k2,?_⟩
 ·subst hc
  simp[execOp,resolve,invoke,builtin,g2,r1]
 ·simp only[RA]
  exact⟨ver+1,v',by rw[List.getElem?_set_self (dy g1)],Nat.le_refl _,λ_=>rfl⟩
end
section
variable{P:Program}{env:Env}{st:List AO}
end
def ko(fid ver:Nat):AV→AV
 | .osf f i v'=>if f=fid∧v'=ver then .osf fid i (ver+1) else .osf f i v'
 |x=>x
theorem tx{m φ st w}{fid oid T k ver:Nat}{ess:List (List (List AV))}{o:AO}(hs:SR m φ st w)(hf:st[fid]? =some (.fam T k ver ess))(ho:st[oid]? =some o)(hne:oid≠fid):
  ∃m',Ev m φ w m' φ w∧SR m' φ ((st.set fid (.fam T k (ver+1) (ess++ [[]]))).set oid (o.mapc (ko fid ver))) w:=by
 have hfl:=(giS.1 hf).1
 have hol:=(giS.1 ho).1
 obtain⟨c,hc⟩:∃c,m[fid]? =some c:=⟨_,geG (by rw[hs.len];exact hfl)⟩
 obtain⟨ys,rfl,h1,h2,h3⟩:=hs.obj fid _ c hf hc
 let m':=m.set fid (.fam (ver+1) (ys++ [fh]))
 have hfid:m'[fid]? =some (.fam (ver+1) (ys++ [fh])):=by simp[m',hs.len,hfl]
 have hoth:∀i,i≠fid→m'[i]? =m[i]? :=λi hif=>by simp only[m'];rw[List.getElem?_set_ne (Ne.symm hif)]
 have hpre:Pre m m':=λi d hd=>by
  by_cases hif:i=fid
  ·subst hif
   rw[hc] at hd
   obtain rfl:=inS hd
   exact⟨_,hfid,qg⟩
  ·exact⟨d,by rw[hoth i hif];exact hd,Cz.le_refl d⟩
 have hsrc:∀b,(Cz.fam (ver+1) (ys++ [fh])).has b→(Cz.fam ver ys).has b:=by
  rintro b ⟨z,hz,hb⟩
  rcases List.mem_append.1 hz with h|h
  ·exact⟨z,h,hb⟩
  ·rw[List.mem_singleton.1 h] at hb;exact(cC hb).elim
 have hre:∀x u,RA m φ w x u→RA m' φ w (ko fid ver x) u:=by
  intro x u hx
  have hm:=RA.mono hpre (Fz.refl φ w) x u hx
  cases x with
  |osf f i vv=>
   simp only[ko]
   split
   ·rename_i hcond
    obtain⟨rfl,rfl⟩:=hcond
    simp only[RA] at hx⊢
    obtain⟨v0,ys0,q1,q2,q3⟩:=hx
    rw[hc] at q1
    simp only[au,Cz.fam.injEq] at q1
    obtain⟨rfl,rfl⟩:=q1
    exact⟨_,_,hfid,Nat.le_refl _,λ_=>by
     have:=q3 rfl
     rw[List.getElem?_append_left (giS.1 this).1];exact this⟩
   ·exact hm
  |_=>exact hm
 have get:∀(i:Nat)(p:AO),((st.set fid (.fam T k (ver+1) (ess++ [[]]))).set oid (o.mapc (ko fid ver)))[i]? =some p→
   (i=oid∧p=o.mapc (ko fid ver))∨(i=fid∧p= .fam T k (ver+1) (ess++ [[]]))∨(i≠fid∧i≠oid∧st[i]? =some p):=by
  intro i p hp
  by_cases hio:i=oid
  ·subst hio
   rw[List.getElem?_set_self (by simpa using hol)] at hp
   exact .inl ⟨rfl,(inS hp).symm⟩
  ·rw[List.getElem?_set_ne (Ne.symm hio)] at hp
   by_cases hif:i=fid
   ·subst hif
    rw[List.getElem?_set_self hfl] at hp
    exact .inr (.inl ⟨rfl,(inS hp).symm⟩)
   ·rw[List.getElem?_set_ne (Ne.symm hif)] at hp
    exact .inr (.inr ⟨hif,hio,hp⟩)
 have hnw:∀b,In m' b→In m b:=by
  rintro b ⟨i,d,hd,hb⟩
  by_cases hif:i=fid
  ·subst hif
   rw[hfid] at hd
   obtain rfl:=inS hd
   exact⟨i,_,hc,hsrc b hb⟩
  ·rw[hoth i hif] at hd
   exact⟨i,d,hd,hb⟩
 refine⟨m',⟨hpre,λb h=> .inl (hnw b h),rfl,rfl,rfl,Nat.le_refl _,λ_ _ _=>⟨rfl,rfl⟩,Fz.refl φ w⟩,⟨by simp[m',hs.len],?_,hs.lt,?_,hs.gl,λb h=>hs.nb b (hnw b h)⟩⟩
 ·intro i p d hp hd
  rcases get i p hp with⟨rfl,rfl⟩|⟨rfl,rfl⟩|⟨g1,g2,g4⟩
  ·rw[hoth i hne] at hd
   exact(hs.obj i o d ho hd).mapc hre (λ_ _=>⟨rfl,rfl⟩)
  ·rw[hfid] at hd
   obtain rfl:=inS hd
   refine⟨_,rfl,by simp[h1],λi' es' y' hi' hy'=>?_,λa b z z' bb ha hb hz hz'=>?_⟩
   ·rcases Nat.lt_or_ge i' ess.length with hl|hl
    ·rw[List.getElem?_append_left hl] at hi'
     rw[List.getElem?_append_left oM] at hy'
     obtain⟨xs,q1,q2,q3,q4⟩:=h2 i' es' y' hi' hy'
     exact⟨xs,q1,RAs.mono hpre (Fz.refl φ w) _ _ q2,q3,q4⟩
    ·rw[List.getElem?_append_right hl] at hi'
     rw[List.getElem?_append_right oM] at hy'
     have e1:es'=[]:=by
      cases hh:i' - ess.length with
      |zero=>rw[hh] at hi';exact(inS hi').symm
      |succ n=>rw[hh] at hi';cases hi'
     have e2:y'=fh:=by
      cases hh:i' - ys.length with
      |zero=>rw[hh] at hy';exact(inS hy').symm
      |succ n=>rw[hh] at hy';cases hy'
     subst e1;subst e2
     exact⟨[],World.ownsRow_nil w 0 T k,by simp[RAs],sM,λb hb=>(cC hb).elim⟩
   ·have low:∀(a:Nat)(z:Value),(ys++ [fh])[a]? =some z→z.ownBlock=some bb→ys[a]? =some z:=λa z ha hz=>by
     rcases Nat.lt_or_ge a ys.length with hl|hl
     ·rwa [List.getElem?_append_left hl] at ha
     ·rw[List.getElem?_append_right hl] at ha
      cases hh:a - ys.length with
      |zero=>rw[hh] at ha;obtain rfl:=inS ha;exact(cC hz).elim
      |succ n=>rw[hh] at ha;cases ha
    exact h3 a b z z' bb (low a z ha hz) (low b z' hb hz') hz hz'
  ·rw[hoth i g1] at hd
   exact(hs.obj i p d g4 hd).congr hpre (Fz.refl φ w) (λ_ _=>⟨rfl,rfl⟩)
 ·have src:∀(i:Nat)(p:AO)(d:Cz)(b:Nat),((st.set fid (.fam T k (ver+1) (ess++ [[]]))).set oid (o.mapc (ko fid ver)))[i]? =some p→p.live=true→m'[i]? =some d→d.has b→
    ∃(p0:AO)(d0:Cz),st[i]? =some p0∧p0.live=true∧m[i]? =some d0∧d0.has b:=by
   intro i p d b hp hl hd hb
   rcases get i p hp with⟨rfl,rfl⟩|⟨rfl,rfl⟩|⟨g1,g2,g4⟩
   ·rw[hoth i hne] at hd
    exact⟨o,d,ho,by rwa [eR] at hl,hd,hb⟩
   ·rw[hfid] at hd
    obtain rfl:=inS hd
    exact⟨_,_,hf,rfl,hc,hsrc b hb⟩
   ·rw[hoth i g1] at hd
    exact⟨p,d,g4,hl,hd,hb⟩
  intro i i' p p' d d' b hp hp' l l' hd hd' hb hb'
  obtain⟨p0,d0,a1,a2,a3,a4⟩:=src i p d b hp l hd hb
  obtain⟨p1,d1,b1,b2,b3,b4⟩:=src i' p' d' b hp' l' hd' hb'
  exact hs.inj i i' p0 p1 d0 d1 b a1 b1 a2 b2 a3 b3 a4 b4
theorem sk{fid ver n nid v:Nat}:(((aX fid ver n)++ [[AV.os nid v]]:List (List AV)).map λe=>e.map (ko fid ver))=(aX fid (ver+1) (n+1)).set n [.os nid v]:=by
 simp only[aX,List.map_append,List.map_map,List.range_succ,List.map_cons,List.map_nil]
 rw[List.set_append_right _ _ sM]
 simp only[List.length_map,List.length_range,Nat.sub_self,List.set_cons_zero]
 congr 1
 apply List.map_congr_left
 intro i _
 simp[ko]
section
variable{P:Program}{env:Env}{st:List AO}{dst:Option Tmp}{ty:TypeId}{pos:String}{after:Array Edge}{guard:Option (Nat×Bool)}
theorem wt{α:Type}{T e by_:Nat}{zs:List Value}{s x:Operand}{id vo fid ver bid nid v Ti ki:Nat}{es:List (List AV)}{c:Call}(L:List (List α))(X:List α)(hT:da P T=some (e,1,by_))(hz:bn P e=some zs)(hzl:zs.length=1)
  (hc:c=⟨.builtin .append, #[s,x], #[T,T]⟩)(hs:opv env s=some (.os id vo))(hi:st[id]? =some (.os e 1 vo (aX fid ver L.length)))(hx:opv env x=some (.os bid 0))(hb:st[bid]? =some (.os e 1 0 [[.os nid v]]))(hn:st[nid]? =some (.os Ti ki v es))(hok:ed by_ L [X]=true):
  fk P env st ⟨dst, .call c,ty,pos,after,guard⟩ (.os id (vo+1)) (st.set id (.os e 1 (vo+1) (aX fid ver L.length++ [[.os nid v]]))):=
 sn (_T':=0) hT hz hzl Nat.one_pos hc hs hi hx (Src.own hb) (by simp[AV.ok1S,hn]) (λf hf=>by rw[List.mem_singleton.1 hf];rfl) (by rw[eC];simpa using mL hok) (by rw[eC];simpa using ph hok)
end
section
variable{e:En}{env:Env}{st:List AO}
theorem oS{α:Type}{E:α→List D}{L:List (List α)}{x':List α}(oid fid nid:Nat){To vo T k ver v:Nat}(ho:st[oid]? =some (.os To 1 vo (aX fid ver L.length++ [[.os nid v]])))(hf:st[fid]? =some (.fam T k ver (bf E L)))(hn:st[nid]? =some (.os T k v (x'.map (a9 E))))(hne:Nat.beq oid fid=false)(hne2:Nat.beq oid nid=false)(hne3:Nat.beq fid nid=false):
  Gh e env st env (((st.set fid (.fam T k (ver+2) (bf E (L++ [x'])))).set nid .dead).set oid (.os To 1 vo (aX fid (ver+2) (L++ [x']).length))):=λm φ a w hinv=>by
 have hne':oid≠fid:=λh=>by simp[h] at hne
 have hne2':oid≠nid:=λh=>by simp[h] at hne2
 have hne3':fid≠nid:=λh=>by simp[h] at hne3
 have hfl:=(giS.1 hf).1
 have hol:=(giS.1 ho).1
 obtain⟨m1,h1,h2⟩:=tx hinv.sr hf ho hne'
 have h3:=hinv.go h1 h2
 simp only[AO.mapc] at h3
 rw[sk] at h3
 have hL:(bf E L++ [[]]:List (List (List AV)))=bf E (L++ [[]]):=by simp[bf]
 rw[hL] at h3
 have hlen:(L++ [([]:List α)]).length=L.length+1:=sM
 have ho2:((st.set fid (.fam T k (ver+1) (bf E (L++ [[]])))).set oid (.os To 1 vo ((aX fid (ver+1) (L.length+1)).set L.length [.os nid v])))[oid]? =some (.os To 1 vo ((aX fid (ver+1) (L++ [([]:List α)]).length).set L.length [.os nid v])):=by
  rw[List.getElem?_set_self (by simpa using hol),hlen]
 have hf2:((st.set fid (.fam T k (ver+1) (bf E (L++ [[]])))).set oid (.os To 1 vo ((aX fid (ver+1) (L.length+1)).set L.length [.os nid v])))[fid]? =some (.fam T k (ver+1) (bf E (L++ [[]]))):=by
  rw[List.getElem?_set_ne hne',List.getElem?_set_self hfl]
 have hn2:((st.set fid (.fam T k (ver+1) (bf E (L++ [[]])))).set oid (.os To 1 vo ((aX fid (ver+1) (L.length+1)).set L.length [.os nid v])))[nid]? =some (.os T k v (x'.map (a9 E))):=by
  rw[List.getElem?_set_ne hne2',List.getElem?_set_ne hne3'];exact hn
 obtain⟨m2,φ2,h4⟩:=iX (e:=e) (env:=env) (_x:=[]) (x':=x') (j:=L.length) oid fid nid (L++ [x']) ho2 hf2 hn2 hne hne2 sM sM m1 φ a w h3
 refine⟨m2,φ2,?_⟩
 have e1:∀(A B C D E':AO),(((((st.set fid A).set oid B).set fid C).set nid D).set oid E')=(((st.set fid C).set nid D).set oid E'):=λA B C D E'=>by
  apply List.ext_getElem?
  intro i
  by_cases h1:i=oid
  ·subst h1;rw[List.getElem?_set_self (by simpa using hol),List.getElem?_set_self (by simpa using hol)]
  ·rw[List.getElem?_set_ne (Ne.symm h1),List.getElem?_set_ne (Ne.symm h1)]
   by_cases h2:i=nid
   ·subst h2
    have hnl:=(giS.1 hn).1
    rw[List.getElem?_set_self (by simpa using hnl),List.getElem?_set_self (by simpa using hnl)]
   ·rw[List.getElem?_set_ne (Ne.symm h2),List.getElem?_set_ne (Ne.symm h2)]
    by_cases h3:i=fid
    ·subst h3;rw[List.getElem?_set_self (by simpa using hfl),List.getElem?_set_self (by simpa using hfl)]
    ·rw[List.getElem?_set_ne (Ne.symm h3),List.getElem?_set_ne (Ne.symm h1),List.getElem?_set_ne (Ne.symm h3),List.getElem?_set_ne (Ne.symm h3)]
 rw[e1] at h4
 exact h4
end
end Go.Sk
namespace Go.Sk
end Go.Sk
namespace Go.Sk
variable{P:Program}{e:En}{env:Env}{st:List AO}{K:Ko}
theorem ui{k:Ko}{x:Code}(J:Env→List AO→Prop)(h1:WC P e x (.lp J k) env st)(h2:∀env' st',J env' st'→WE P e .normal k env' st'):WC P e x k env st:=λm φ a w hi=>by
 refine wpIn_mono (h1 m φ a w hi) ?_
 intro ex a' w' hq
 cases ex with
 |normal=>
  obtain⟨env',st',m',φ',hJ,hi'⟩:=hq
  exact h2 env' st' hJ m' φ' a' w' hi'
 |_=>exact hq
end Go.Sk
namespace Go.Sk
section
variable{P:Program}{env:Env}{st:List AO}{dst:Option Tmp}{ty:TypeId}{pos:String}{after:Array Edge}{guard:Option (Nat×Bool)}
end
end Go.Sk
namespace Go.Sk
open Go.RowKit (Below)
section
variable{P:Program}{e:En}{ops:Array Oper}{l rest:List Oper}{env:Env}{st:List AO}{R:Env→List AO→Prop}{K:Ko}{dst:Option Tmp}{ty:TypeId}{pos:String}{after:Array Edge}{guard:Option (Nat×Bool)}
end
end Go.Sk
namespace Go.Sk
section
variable{P:Program}{e:En}{env:Env}{st:List AO}
end
end Go.Sk
namespace Go.Sk
end Go.Sk
namespace Go.Sk
abbrev AV.n(x:Int):AV:= .d (D.i .i64 x)
abbrev AV.l{α:Type}(E:α→List D)(L:List α):AV:= .d (.sl (L.map E))
theorem q{α:Sort _}{a:α}:a=a:=rfl
abbrev Zt:True:=trivial
abbrev Zs:= @Les.refl
theorem Zp{T:Nat}{l:List AV}:OLe (.row T l) (.row T l):=⟨rfl,Les.refl _⟩
theorem Zf{α β γ δ:Type}{a:α}{b:β}{c:γ}{d:δ}:a=a∧b=b∧c=c∧d=d:=⟨rfl,rfl,rfl,rfl⟩
abbrev Zw:= @Wt.none
theorem Oi{α:Type}{a b:α}(h:some a=some b):a=b:=inS h
abbrev Zd:= @lA
abbrev eM{α:Type}(E:α→List D)(L:List α):List (List AV):=L.map (a9 E)
abbrev rF(t f:Nat):AO:= .row t [.fn (.func f) [] []]
abbrev Zl{a:AV}:Le a a:=Le.refl a
abbrev Zn:= @WL.ns
abbrev Zq:= @WL.qn
abbrev Zy:= @WL.qy
theorem Sx{env' env:Env}{t:Nat}{x:AV}(h:env.get t=some x)(hs:Sub env' env):Sub ((t,x)::env') env:=Sub.cons h (Le.refl _) hs
theorem Lo{n T k v:Nat}{α:Type}{E:α→List D}{L:List α}{l:List AO}(k':dc n l=true):dc n (.os T k v (L.map (a9 E))::l)=true:=ay (qP _ _ _ _ _ _) k'
theorem Lf{n T k v:Nat}{α:Type}{E:α→List D}{L:List (List α)}{l:List AO}(k':dc n l=true):dc n (.fam T k v (bf E L)::l)=true:=ay (qb _ _ _ _ _ _) k'
theorem Lg{n T k v fid ver m:Nat}{l:List AO}(h:Nat.ble (fid+1) n=true)(k':dc n l=true):dc n (.os T k v (aX fid ver m)::l)=true:=ay (ti _ _ _ _ _ _ _ h) k'
theorem Ro{js:List Nat}{T k v:Nat}{α:Type}{E:α→List D}{L:List α}{l l':List AO}(h:l=l'):AO.ren js (.os T k v (L.map (a9 E)))::l= .os T k v (L.map (a9 E))::l':=cR (sZ _ _ _ _ _ _) h
theorem Rf{js:List Nat}{T k v:Nat}{α:Type}{E:α→List D}{L:List (List α)}{l l':List AO}(h:l=l'):AO.ren js (.fam T k v (bf E L))::l= .fam T k v (bf E L)::l':=cR (uq _ _ _ _ _ _) h
theorem Rg{js:List Nat}{T v fid fv n:Nat}{l l':List AO}(h:l=l'):AO.ren js (.os T 1 v (aX fid fv n))::l= .os T 1 v (aX (js.getD fid 0) fv n)::l':=cR (uo _ _ _ _ _ _) h
end Go.Sk
namespace Go.Sk
inductive NT(α:Type) where
 |lf
 |nd(k:Nat)(v:α)(l r:NT α)
def NT.get{α:Type}:NT α→Nat→Option α
 | .lf,_=>none
 | .nd k v l r,i=>bif Nat.beq i k then some v else bif Nat.blt i k then l.get i else r.get i
def NT.chk{α:Type}(f:Nat→Option α)(eq:α→α→Bool):NT α→Bool
 | .lf=>true
 | .nd k v l r=>(match f k with|some u=>eq u v|none=>false)&&(l.chk f eq&&r.chk f eq)
theorem el{α:Type}{f:Nat→Option α}{eq:α→α→Bool}(he:∀a b,eq a b=true→a=b):∀{t:NT α},t.chk f eq=true→∀{i:Nat}{v:α},t.get i=some v→f i=some v
 | .lf,_,i,v,h=>by cases h
 | .nd k u l r,hc,i,v,h=>by
  simp only[NT.chk,Bool.and_eq_true] at hc
  unfold NT.get at h
  cases hb:Nat.beq i k with
  |true=>
   rw[hb] at h
   obtain rfl:=nbE hb
   obtain rfl:=inS h
   have h1:=hc.1
   cases hf:f i with
   |none=>rw[hf] at h1;cases h1
   |some w=>rw[hf] at h1;rw[he _ _ h1]
  |false=>
   rw[hb] at h
   simp only[cdF] at h
   cases hl:Nat.blt i k with
   |true=>rw[hl] at h;exact el he hc.2.1 h
   |false=>rw[hl] at h;exact el he hc.2.2 h
structure Ty where
 ag:NT Bool
 sz:NT Nat
 fo:NT (Nat×Nat×Bool)
 un:NT IntKind
def unK(P:Program)(T:Nat):Option IntKind:=match P.underlying T with
 |some (.int k)=>some k
 |_=>none
def foEq(a b:Nat×Nat×Bool):Bool:=Nat.beq a.1 b.1&&(Nat.beq a.2.1 b.2.1&&(a.2.2==b.2.2))
def Ty.ok(P:Program)(t:Ty):Bool:=
 t.ag.chk (aV P) (·==·)&&(t.sz.chk (bF P) Nat.beq&&(t.fo.chk (λi=>dh P (i / 64) (i%64)) foEq&&t.un.chk (unK P) (λa b=>decide (a=b))))
def Ty.fo'(t:Ty)(S i:Nat):Option (Nat×Nat×Bool):=bif Nat.blt i 64 then t.fo.get (S*64+i) else none
class Tys(P:Program) where
 t:Ty
 h:t.ok P=true
section
variable{P:Program}{t:Ty}(ht:t.ok P=true)
include ht
theorem jw{T:Nat}{b:Bool}(h:t.ag.get T=some b):aV P T=some b:=by
 simp only[Ty.ok,Bool.and_eq_true] at ht
 exact el (λa b h=>by simpa using h) ht.1 h
theorem pn{T:Nat}{b:Nat}(h:t.sz.get T=some b):bF P T=some b:=by
 simp only[Ty.ok,Bool.and_eq_true] at ht
 exact el (λa b h=>nbE h) ht.2.1 h
theorem fU{S i:Nat}{b:Nat×Nat×Bool}(h:t.fo' S i=some b):dh P S i=some b:=by
 simp only[Ty.ok,Bool.and_eq_true] at ht
 unfold Ty.fo' at h
 cases hb:Nat.blt i 64 with
 |false=>rw[hb] at h;cases h
 |true=>
  rw[hb] at h
  have hlt:i<64:=by have:=nbT hb;omega
  have:=el (λa b h=>by
   simp only[foEq,Bool.and_eq_true] at h
   obtain⟨h1,h2,h3⟩:=h
   obtain⟨a1,a2,a3⟩:=a
   obtain⟨b1,b2,b3⟩:=b
   simp only at h1 h2 h3
   rw[nbE h1,nbE h2,eq_of_beq h3]) ht.2.2.1 h
  have e1:(S*64+i) / 64=S:=oM
  have e2:(S*64+i)%64=i:=oM
  simpa only[e1,e2] using this
theorem pm{T:Nat}{k:IntKind}(h:t.un.get T=some k):P.underlying T=some (.int k):=by
 simp only[Ty.ok,Bool.and_eq_true] at ht
 have:=el (λa b h=>of_decide_eq_true h) ht.2.2.2 h
 unfold unK at this
 split at this
 ·rename_i hu;rw[hu];rw[inS this]
 ·cases this
end
def vm(k:IntKind)(p q:Int):BinOp→Option AV
 | .add=>some (.d (.v (.int k (k.wrap (p+q)))))
 | .sub=>some (.d (.v (.int k (k.wrap (p - q)))))
 | .mul=>some (.d (.v (.int k (k.wrap (p*q)))))
 | .lss=>some (.d (.v (.bool (decide (p<q)))))
 | .leq=>some (.d (.v (.bool (decide (p≤q)))))
 | .gtr=>some (.d (.v (.bool (decide (p>q)))))
 | .geq=>some (.d (.v (.bool (decide (p≥q)))))
 | .eql=>some (.d (.v (.bool (decide (p=q)))))
 | .neq=>some (.d (.v (.bool (!decide (p=q)))))
 |_=>none
def vd(p q:ByteArray):BinOp→Option AV
 | .eql=>some (.d (.v (.bool (p.toList==q.toList))))
 | .neq=>some (.d (.v (.bool (!(p.toList==q.toList)))))
 |_=>none
def binS(b:BinOp):AV→AV→Option AV
 | .d (.v (.int k p)), .d (.v (.int k' q))=>bif decide (k=k') then vm k p q b else none
 | .d (.v (.string p)), .d (.v (.string q))=>vd p q b
 |_,_=>none
def vj(t:Ty)(st:List AO)(T:Nat):AV→Option AV
 | .pt id off=>match t.ag.get T with
  |some false=>match st[id]? with
   |some (.row _ cs)=>cs[off]?
   |_=>none
  |some true=>match st[id]?,t.sz.get T with
   |some (.row _ cs),some n=>bif Nat.ble (off+n) cs.length then some (.ag ((cs.drop off).take n)) else none
   |_,_=>none
  |none=>none
 | .d (.pc ps)=>match t.ag.get T with
  |some false=>match ps[0]? with
   |some p=>some (.d p)
   |none=>none
  |some true=>match t.sz.get T with
   |some n=>bif Nat.ble n ps.length then some (.d (.ag (ps.take n))) else none
   |none=>none
  |none=>none
 |_=>none
def faS(fo:Nat):AV→Option AV
 | .pt id off=>some (.pt id (off+fo))
 | .d (.pc ps)=>some (.d (.pc (ps.drop fo)))
 |_=>none
def fldS(f:Nat×Nat×Bool):AV→Option AV
 | .d (.ag ps)=>match f with
  |(fo,_,false)=>match ps[fo]? with
   |some p=>some (.d p)
   |none=>none
  |(fo,n,true)=>some (.d (.ag ((ps.drop fo).take n)))
 | .ag ps=>match f with
  |(fo,_,false)=>ps[fo]?
  |(fo,n,true)=>some (.ag ((ps.drop fo).take n))
 |_=>none
def nilS:AV→Option AV
 | .pt id off=>some (.pt id off)
 | .d (.pc ps)=>some (.d (.pc ps))
 | .fn (.func f) a b=>some (.fn (.func f) a b)
 |_=>none
def extS(i:Nat):AV→Option AV
 | .tu l=>l[i]?
 | .d (.tu l)=>match l[i]? with
  |some p=>some (.d p)
  |none=>none
 |_=>none
def notS:AV→Option AV
 | .d (.v (.bool b))=>some (.d (.v (.bool (!b))))
 |_=>none
def negS:AV→Option AV
 | .d (.v (.int k p))=>some (.d (.v (.int k (k.wrap (0 - p)))))
 |_=>none
def vB(k:IntKind):AV→Option AV
 | .d (.v (.int _ p))=>some (.d (.v (.int k (k.wrap p))))
 |_=>none
def tU:AV→Option Bool
 | .d (.v (.bool b))=>some b
 |_=>none
theorem pg{x:AV}{b:Bool}(h:tU x=some b):x= .d (.v (.bool b)):=by
 unfold tU at h
 split at h
 ·rw[inS h]
 ·cases h
def kd(t:Ty)(env:Env)(st:List AO):Op→Option AV
 | .move x=>opv env x
 | .assign x=>opv env x
 | .pick c x y=>match(opv env c).bind tU with
  |some true=>opv env x
  |some false=>opv env y
  |none=>none
 | .load T x=>(opv env x).bind (vj t st T)
 | .fieldAddr S x i=>match t.fo' S i with
  |some (fo,_+1,_)=>(opv env x).bind (faS fo)
  |_=>none
 | .field S x i=>match t.fo' S i with
  |some f=>(opv env x).bind (fldS f)
  |none=>none
 | .nilCheck x=>(opv env x).bind nilS
 | .extract x i=>(opv env x).bind (extS i)
 | .unOp .not _ x=>(opv env x).bind notS
 | .unOp .neg _ x=>(opv env x).bind negS
 | .binOp b _ x y _=>match opv env x,opv env y with
  |some u1,some v1=>binS b u1 v1
  |_,_=>none
 | .convert S T x=>match t.un.get S,t.un.get T with
  |some _,some k=>(opv env x).bind (vB k)
  |_,_=>none
 | .makeFunc f first caps=>match dl env first.toList,dl env caps.toList with
  |some a,some b=>some (.fn f a b)
  |_,_=>none
 |_=>none
theorem iB{α β:Type}{o:Option α}{f:α→Option β}{r:β}(h:o.bind f=some r):∃x,o=some x∧f x=some r:=by
 cases o with
 |none=>cases h
 |some x=>exact⟨x,rfl,h⟩
section
variable{P:Program}{t:Ty}(ht:t.ok P=true){env:Env}{st:List AO}{dst:Option Tmp}{ty:TypeId}{pos:String}{after:Array Edge}{guard:Option (Nat×Bool)}
include ht
theorem n8{op:Op}{r:AV}(h:kd t env st op=some r):Yields P env st ⟨dst,op,ty,pos,after,guard⟩ r:=by
 cases op with
 |move x=>exact vL h
 |assign x=>exact sF h
 |pick c x y=>
  dsimp only[kd] at h
  split at h
  ·rename_i hc;obtain⟨z,h1,h2⟩:=iB hc;rw[pg h2] at h1;exact sx h1 h
  ·rename_i hc;obtain⟨z,h1,h2⟩:=iB hc;rw[pg h2] at h1;exact sy h1 h
  ·cases h
 |load T x=>
  obtain⟨z,h1,h2⟩:=iB h
  unfold vj at h2
  split at h2
  ·split at h2
   ·rename_i ha
    split at h2
    ·rename_i hs;exact pC h1 hs (jw ht ha) h2
    ·cases h2
   ·rename_i ha
    split at h2
    ·rename_i hs hn
     cases hb:Nat.ble (_+_) (List.length _) with
     |false=>rw[hb] at h2;cases h2
     |true=>rw[hb] at h2;obtain rfl:=inS h2;exact mT h1 hs (jw ht ha) (pn ht hn) hb
    ·cases h2
   ·cases h2
  ·split at h2
   ·rename_i ha
    split at h2
    ·rename_i hp;obtain rfl:=inS h2;exact ue h1 (jw ht ha) hp
    ·cases h2
   ·rename_i ha
    split at h2
    ·rename_i hn
     cases hb:Nat.ble _ (List.length _) with
     |false=>rw[hb] at h2;cases h2
     |true=>rw[hb] at h2;obtain rfl:=inS h2;exact sA h1 (jw ht ha) (pn ht hn) hb
    ·cases h2
   ·cases h2
  ·cases h2
 |fieldAddr S x i=>
  dsimp only[kd] at h
  split at h
  ·rename_i hf
   obtain⟨z,h1,h2⟩:=iB h
   unfold faS at h2
   split at h2
   ·obtain rfl:=inS h2;exact nS (fU ht hf) h1
   ·obtain rfl:=inS h2;exact mU (fU ht hf) h1
   ·cases h2
  ·cases h
 |field S x i=>
  dsimp only[kd] at h
  split at h
  ·rename_i hf
   obtain⟨z,h1,h2⟩:=iB h
   unfold fldS at h2
   split at h2
   ·split at h2
    ·split at h2
     ·rename_i hp;obtain rfl:=inS h2;exact uf (fU ht hf) h1 hp
     ·cases h2
    ·obtain rfl:=inS h2;exact sD (fU ht hf) h1
   ·split at h2
    ·exact sC (fU ht hf) h1 h2
    ·obtain rfl:=inS h2;exact rz (fU ht hf) h1
   ·cases h2
  ·cases h
 |nilCheck x=>
  obtain⟨z,h1,h2⟩:=iB h
  unfold nilS at h2
  split at h2
  ·obtain rfl:=inS h2;exact nM h1
  ·obtain rfl:=inS h2;exact nO h1
  ·obtain rfl:=inS h2;exact nN h1
  ·cases h2
 |extract x i=>
  obtain⟨z,h1,h2⟩:=iB h
  unfold extS at h2
  split at h2
  ·exact rA h1 h2
  ·split at h2
   ·rename_i hp;obtain rfl:=inS h2;exact pD h1 hp
   ·cases h2
  ·cases h2
 |unOp u T x=>
  cases u with
  |not=>
   obtain⟨z,h1,h2⟩:=iB h
   unfold notS at h2
   split at h2
   ·obtain rfl:=inS h2;exact y_not h1
   ·cases h2
  |neg=>
   obtain⟨z,h1,h2⟩:=iB h
   unfold negS at h2
   split at h2
   ·obtain rfl:=inS h2;exact y_neg h1 rfl
   ·cases h2
  |_=>cases h
 |binOp b T x y T'=>
  dsimp only[kd] at h
  split at h
  ·rename_i hu hv
   unfold binS at h
   split at h
   ·rename_i k p k' q
    cases hk:decide (k=k') with
    |false=>rw[hk] at h;cases h
    |true=>
     rw[hk] at h
     have hk:=of_decide_eq_true hk
     subst hk
     simp only[cdT] at h
     cases b<;>simp only[vm] at h<;>first|cases h|(obtain rfl:=inS h)
     ·exact je hu hv rfl
     ·exact y_sub hu hv rfl
     ·exact y_mul hu hv rfl
     ·exact y_eql hu hv
     ·exact y_neq hu hv
     ·exact y_lss hu hv
     ·exact y_leq hu hv
     ·exact y_gtr hu hv
     ·exact y_geq hu hv
   ·cases b<;>simp only[vd] at h<;>first|cases h|(obtain rfl:=inS h)
    ·exact y_eqs hu hv
    ·exact y_nes hu hv
   ·cases h
  ·cases h
 |convert S T x=>
  dsimp only[kd] at h
  split at h
  ·rename_i hS hT
   obtain⟨z,h1,h2⟩:=iB h
   unfold vB at h2
   split at h2
   ·obtain rfl:=inS h2;exact vM (pm ht hS) (pm ht hT) h1 rfl
   ·cases h2
  ·cases h
 |makeFunc f a b=>
  dsimp only[kd] at h
  split at h
  ·rename_i h1 h2
   obtain rfl:=inS h
   exact pz h1 h2
  ·cases h
 |_=>cases h
end
def nW(ops:Array Oper)(env:Env):Option (Nat×Bool)→Option Bool
 |none=>some true
 |some (j,b)=>match(ops[j]?).bind (·.dst) with
  |some t=>match env.get t with
   |some (.d (.v (.bool x)))=>some (x==b)
   |some (.d (.v (.tuple _)))=>some false
   |_=>none
  |none=>none
def ke(t:Ty)(n:Nat)(ops:Array Oper)(st:List AO)(env:Env)(o:Oper):Option Env:=
 match nW ops env o.guard with
 |some true=>match o.dst with
  |some d=>bif Nat.ble (d+1) n then(match kd t env st o.op with
   |some r=>some ((d,r)::env)
   |none=>none) else none
  |none=>none
 |some false=>match o.dst with
  |some d=>bif Nat.ble (d+1) n then some ((d, .d (.v undef))::env) else none
  |none=>some env
 |none=>none
def ji(t:Ty)(n:Nat)(ops:Array Oper)(st:List AO):Nat→List Oper→Env→Option (List Oper×Env)
 |0,l,env=>some (l,env)
 |k+1,o::l,env=>match ke t n ops st env o with
  |some env'=>ji t n ops st k l env'
  |none=>none
 |_+1,[],_=>none
section
variable{P:Program}{t:Ty}(ht:t.ok P=true){e:En}{ops:Array Oper}{st:List AO}{R:Env→List AO→Prop}{n:Nat}{RQ:Env→Prop}
omit ht in
theorem kL{env:Env}{o:Oper}(h:nW ops env o.guard=some true):Wt ops env o true:=by
 unfold nW at h
 split at h
 ·rename_i hg;exact Wt.none hg
 ·rename_i j b hg
  split at h
  ·rename_i hj
   split at h
   ·rename_i x hx
    have:x=b:=by simpa using h
    subst this
    exact aG hg hj hx
   ·cases h
   ·cases h
  ·cases h
omit ht in
theorem fu{env:Env}{o:Oper}(h:nW ops env o.guard=some false):Wt ops env o false:=by
 unfold nW at h
 split at h
 ·cases h
 ·rename_i j b hg
  split at h
  ·rename_i hj
   split at h
   ·rename_i x hx
    exact Wt.no hg hj hx (inS h)
   ·rename_i x hx
    intro m φ w a he
    simp only[Region.wanted,hg,iG he hj hx];rfl
   ·cases h
  ·cases h
include ht
theorem jh{env env':Env}{o:Oper}{l:List Oper}(h:ke t e.n ops st env o=some env')(k:WL P e ops l env' st R):WL P e ops (o::l) env st R:=by
 unfold ke at h
 split at h
 ·rename_i hw
  split at h
  ·rename_i d hd
   cases hb:Nat.ble (d+1) e.n with
   |false=>rw[hb] at h;cases h
   |true=>
    rw[hb] at h
    simp only[cdT] at h
    split at h
    ·rename_i r hr
     obtain rfl:=inS h
     obtain⟨od,oop,oty,opos,oaf,og⟩:=o
     exact WL.q (n8 ht hr) (kL hw) hd hb k
    ·cases h
  ·cases h
 ·rename_i hw
  split at h
  ·rename_i d hd
   cases hb:Nat.ble (d+1) e.n with
   |false=>rw[hb] at h;cases h
   |true=>rw[hb] at h;obtain rfl:=inS h;exact WL.skip (fu hw) hd hb k
  ·rename_i hd;obtain rfl:=inS h;exact WL.skip0 (fu hw) hd k
 ·cases h
theorem sR{env env':Env}{o:Oper}{l:List Oper}(h:ke t n ops st env o=some env')(k:WQ P n ops l env' st RQ):WQ P n ops (o::l) env st RQ:=by
 unfold ke at h
 split at h
 ·rename_i hw
  split at h
  ·rename_i d hd
   cases hb:Nat.ble (d+1) n with
   |false=>rw[hb] at h;cases h
   |true=>
    rw[hb] at h
    simp only[cdT] at h
    split at h
    ·rename_i r hr
     obtain rfl:=inS h
     obtain⟨od,oop,oty,opos,oaf,og⟩:=o
     exact WQ.q (gr (n8 ht hr)) (kL hw) hd hb k
    ·cases h
  ·cases h
 ·rename_i hw
  split at h
  ·rename_i d hd
   cases hb:Nat.ble (d+1) n with
   |false=>rw[hb] at h;cases h
   |true=>rw[hb] at h;obtain rfl:=inS h;exact WQ.skip (fu hw) hd hb k
  ·rename_i hd;obtain rfl:=inS h;exact WQ.skip0 (fu hw) hd k
 ·cases h
theorem qB:∀{k:Nat}{l l':List Oper}{env env':Env},ji t e.n ops st k l env=some (l',env')→WL P e ops l' env' st R→WL P e ops l env st R
 |0,l,l',env,env',h,k=>by obtain⟨rfl,rfl⟩:=Prod.mk.inj (inS h);exact k
 |j+1,[],l',env,env',h,k=>by cases h
 |j+1,o::l,l',env,env',h,k=>by
  unfold ji at h
  split at h
  ·rename_i hs;exact jh ht hs (qB h k)
  ·cases h
theorem qA:∀{k:Nat}{l l':List Oper}{env env':Env},ji t n ops st k l env=some (l',env')→WQ P n ops l' env' st RQ→WQ P n ops l env st RQ
 |0,l,l',env,env',h,k=>by obtain⟨rfl,rfl⟩:=Prod.mk.inj (inS h);exact k
 |j+1,[],l',env,env',h,k=>by cases h
 |j+1,o::l,l',env,env',h,k=>by
  unfold ji at h
  split at h
  ·rename_i hs;exact sR ht hs (qA h k)
  ·cases h
end
theorem Rl{P:Program}[T:Tys P]{e:En}{ops:Array Oper}{st:List AO}{R:Env→List AO→Prop}{l l':List Oper}{env env':Env}(k:Nat)(h:ji T.t e.n ops st k l env=some (l',env'))(hw:WL P e ops l' env' st R):WL P e ops l env st R:=qB T.h h hw
theorem Rq{P:Program}[T:Tys P]{n:Nat}{ops:Array Oper}{st:List AO}{R:Env→Prop}{l l':List Oper}{env env':Env}(k:Nat)(h:ji T.t n ops st k l env=some (l',env'))(hw:WQ P n ops l' env' st R):WQ P n ops l env st R:=qA T.h h hw
inductive SS where
 |c(c:Code)(k:Ko)
 |x(x:Exit)(k:Ko)
 |l(ops:Array Oper)(l:List Oper)(k:Ko)
@[reducible] def SS.den(P:Program)(e:En)(env:Env)(st:List AO):SS→Prop
 | .c cd k=>WC P e cd k env st
 | .x ex k=>WE P e ex k env st
 | .l ops ol k=>WL P e ops ol env st (λenv' st'=>WE P e .normal k env' st')
def ctlC(k:Ko):Code→Option SS
 | .seq x y=>some (.c x (.seq y k))
 | .skip=>some (.x .normal k)
 | .ret=>some (.x .ret k)
 | .exit i=>some (.x (.exit i) k)
 | .block i x=>some (.c x (.blk i k))
 | .region _ a false=>bif cQ a.toList then some (.l a a.toList k) else none
 |_=>none
def ctlX:Exit→Ko→Option SS
 | .normal, .seq c k=>some (.c c k)
 | .ret, .seq _ k=>some (.x .ret k)
 | .exit i, .seq _ k=>some (.x (.exit i) k)
 | .normal, .blk _ k=>some (.x .normal k)
 | .ret, .blk _ k=>some (.x .ret k)
 | .exit i, .blk j k=>bif Nat.beq i j then some (.x .normal k) else some (.x (.exit i) k)
 | .ret, .lp _ k=>some (.x .ret k)
 | .exit i, .lp _ k=>some (.x (.exit i) k)
 |_,_=>none
def n9(t:Ty)(n:Nat)(st:List AO)(env:Env):SS→Option (SS×Env)
 | .c cd k=>match ctlC k cd with
  |some s=>some (s,env)
  |none=>none
 | .x ex k=>match ctlX ex k with
  |some s=>some (s,env)
  |none=>none
 | .l _ [] k=>some (.x .normal k,env)
 | .l ops (o::l) k=>match ke t n ops st env o with
  |some env'=>some (.l ops l k,env')
  |none=>none
def kA(t:Ty)(n:Nat)(st:List AO):Nat→SS→Env→Option (SS×Env)
 |0,s,env=>some (s,env)
 |k+1,s,env=>match n9 t n st env s with
  |some (s',env')=>kA t n st k s' env'
  |none=>none
section
variable{P:Program}{t:Ty}(ht:t.ok P=true){e:En}{st:List AO}
include ht
theorem sQ{env env':Env}{s s':SS}(h:n9 t e.n st env s=some (s',env'))(k:s'.den P e env' st):s.den P e env st:=by
 cases s with
 |c c κ=>
  dsimp only[n9] at h
  split at h
  ·rename_i s1 hc
   obtain⟨rfl,rfl⟩:=Prod.mk.inj (inS h)
   cases c with
   |seq x y=>obtain rfl:=inS hc;exact vO k
   |skip=>obtain rfl:=inS hc;exact ug k
   |ret=>obtain rfl:=inS hc;exact vP k
   |exit i=>obtain rfl:=inS hc;exact uh k
   |block i x=>obtain rfl:=inS hc;exact sK k
   |region i a b=>
    cases b with
    |true=>cases hc
    |false=>
     dsimp only[ctlC] at hc
     cases hb:cQ a.toList with
     |false=>rw[hb] at hc;cases hc
     |true=>
      rw[hb] at hc
      obtain rfl:=inS hc
      exact rD (l:=a.toList) k hb
   |_=>cases hc
  ·cases h
 |x x κ=>
  dsimp only[n9] at h
  split at h
  ·rename_i s1 hc
   obtain⟨rfl,rfl⟩:=Prod.mk.inj (inS h)
   unfold ctlX at hc
   split at hc
   ·obtain rfl:=inS hc;exact sI k
   ·obtain rfl:=inS hc;exact pH k
   ·obtain rfl:=inS hc;exact nU k
   ·obtain rfl:=inS hc;exact vN k
   ·obtain rfl:=inS hc;exact pL k
   ·rename_i i j κ'
    cases hb:Nat.beq i j with
    |true=>rw[hb] at hc;obtain rfl:=inS hc;obtain rfl:=nbE hb;exact pM k
    |false=>rw[hb] at hc;obtain rfl:=inS hc;exact nV hb k
   ·obtain rfl:=inS hc;exact rB k
   ·obtain rfl:=inS hc;exact pK k
   ·cases hc
  ·cases h
 |l ops l κ=>
  cases l with
  |nil=>obtain⟨rfl,rfl⟩:=Prod.mk.inj (inS h);exact WL.nil k
  |cons o l=>
   dsimp only[n9] at h
   split at h
   ·rename_i env1 hs
    obtain⟨rfl,rfl⟩:=Prod.mk.inj (inS h)
    exact jh ht hs k
   ·cases h
theorem ez:∀{k:Nat}{s s':SS}{env env':Env},kA t e.n st k s env=some (s',env')→s'.den P e env' st→s.den P e env st
 |0,s,s',env,env',h,k=>by obtain⟨rfl,rfl⟩:=Prod.mk.inj (inS h);exact k
 |j+1,s,s',env,env',h,k=>by
  unfold kA at h
  split at h
  ·rename_i hs;exact sQ ht hs (ez h k)
  ·cases h
end
section
variable{P:Program}[T:Tys P]{e:En}{st:List AO}{env env':Env}{κ κ':Ko}
theorem Rcc{c:Code}{c':Code}(k:Nat)(h:kA T.t e.n st k (.c c κ) env=some ((.c c' κ'),env'))(hw:WC P e c' κ' env' st):WC P e c κ env st:=ez (s:=(.c c κ)) T.h h hw
theorem Rcx{c:Code}{x':Exit}(k:Nat)(h:kA T.t e.n st k (.c c κ) env=some ((.x x' κ'),env'))(hw:WE P e x' κ' env' st):WC P e c κ env st:=ez (s:=(.c c κ)) T.h h hw
theorem Rcl{c:Code}{ops':Array Oper}{l':List Oper}(k:Nat)(h:kA T.t e.n st k (.c c κ) env=some ((.l ops' l' κ'),env'))(hw:WL P e ops' l' env' st λenv' st'=>WE P e .normal κ' env' st'):WC P e c κ env st:=ez (s:=(.c c κ)) T.h h hw
theorem Rxc{x:Exit}{c':Code}(k:Nat)(h:kA T.t e.n st k (.x x κ) env=some ((.c c' κ'),env'))(hw:WC P e c' κ' env' st):WE P e x κ env st:=ez (s:=(.x x κ)) T.h h hw
theorem Rxx{x:Exit}{x':Exit}(k:Nat)(h:kA T.t e.n st k (.x x κ) env=some ((.x x' κ'),env'))(hw:WE P e x' κ' env' st):WE P e x κ env st:=ez (s:=(.x x κ)) T.h h hw
theorem Rxl{x:Exit}{ops':Array Oper}{l':List Oper}(k:Nat)(h:kA T.t e.n st k (.x x κ) env=some ((.l ops' l' κ'),env'))(hw:WL P e ops' l' env' st λenv' st'=>WE P e .normal κ' env' st'):WE P e x κ env st:=ez (s:=(.x x κ)) T.h h hw
theorem Rlc{ops:Array Oper}{l:List Oper}{c':Code}(k:Nat)(h:kA T.t e.n st k (.l ops l κ) env=some ((.c c' κ'),env'))(hw:WC P e c' κ' env' st):WL P e ops l env st (λenv' st'=>WE P e .normal κ env' st'):=ez (s:=(.l ops l κ)) T.h h hw
theorem Rlx{ops:Array Oper}{l:List Oper}{x':Exit}(k:Nat)(h:kA T.t e.n st k (.l ops l κ) env=some ((.x x' κ'),env'))(hw:WE P e x' κ' env' st):WL P e ops l env st (λenv' st'=>WE P e .normal κ env' st'):=ez (s:=(.l ops l κ)) T.h h hw
theorem Rll{ops:Array Oper}{l:List Oper}{ops':Array Oper}{l':List Oper}(k:Nat)(h:kA T.t e.n st k (.l ops l κ) env=some ((.l ops' l' κ'),env'))(hw:WL P e ops' l' env' st λenv' st'=>WE P e .normal κ' env' st'):WL P e ops l env st (λenv' st'=>WE P e .normal κ env' st'):=ez (s:=(.l ops l κ)) T.h h hw
end
end Go.Sk
namespace Go.Sk
open Go.RowKit (Below)
open Go.MapKept (IsKey sameNow_of_keys run_checkKey run_findKey run_keyThatStays)
def ixL{κ:Type}[DecidableEq κ]:List κ→κ→Option Nat
 |[],_=>none
 |a::l,k=>if a=k then some 0 else(ixL l k).map (·+1)
structure KeyX(P:Program){κ:Type}[DecidableEq κ](kt:TypeId)(kf:κ→Value):Prop where
 chk:∀em k w,(Instr.checkKey em 10000 kt (kf k)).run P w= .ok () w
 find:∀(k:κ)(L:List κ)(l:List MapEntry)(w:World),l.map (·.key)=L.map kf→(Instr.findKey kt (kf k) l).run P w= .ok ((ixL L k).bind λj=>(l[j]?).map λe=>(j,e.val)) w
 stays:∀k w,(Instr.keyThatStays (kf k) (kf k)).run P w= .ok (kf k) w
section
variable{κ:Type}[DecidableEq κ]{P:Program}{d:TypeDesc}{kt:TypeId}{kf:κ→Value}
end
inductive KDk where
 |i(k:IntKind)
 |p(k1 k2:IntKind)
def rgX(P:Program)(env:Env)(st:List AO)(T:TypeId)(x:Operand):Option (AV×List AO):=
 match P.underlying T,opv env x with
 |some (.map _ _),some (.mp id)=>(match st[id]? with
  |some (.mb _ _ cl)=>some (.pt st.length 0,st++ [.it (.mp id) cl [] cl])
  |_=>none)
 |some (.map _ _),some (.d (.v (.map none)))=>some (.pt st.length 0,st++ [.it (.d (.v (.map none))) 0 [] 0])
 |_,_=>none
def lu(es:List (Value×Nat))(s:Nat):Option Nat:=match es with
 |[]=>none
 |p::l=>bif Nat.beq p.2 s then some 0 else(match lu l s with
  |some j=>some (j+1)
  |none=>none)
def enX(env:Env)(st:List AO)(x:Operand):Option AV:=match opv env x with
 |some (.pt iid 0)=>(match st[iid]? with
  |some (.it (.mp id) _ seen stp)=>(match seen.getLast?,st[id]? with
   |some s,some (.mb es xs cl)=>bif Nat.beq cl stp then(match lu es s with
    |some j=>(match es[j]?,xs[j]? with
     |some p,some r=>some (.tu [fC p.1,r])
     |_,_=>none)
    |none=>none) else none
   |_,_=>none)
  |_=>none)
 |_=>none
def kZ(iid id since stp cl:Nat)(seen:List Nat)(es:List (Value×Nat))(xs:List AV)(st:List AO):List (AV×List AO):=
 (bif es.all (λp=>seen.contains p.2|| !(Nat.blt p.2 since)) then[(.tu [.d (.v (.bool false))],st)] else[])++
 (List.zip es xs).filterMap λp=>bif seen.contains p.1.2 then none else some (.tu [.d (.v (.bool true)),fC p.1.1,p.2],st.set iid (.it (.mp id) since (seen++ [p.1.2]) cl))
section
variable{P:Program}{env:Env}{st:List AO}{dst:Option Tmp}{ty:TypeId}{pos:String}{after:Array Edge}{guard:Option (Nat×Bool)}
end
end Go.Sk
namespace Go.Sk
open Go.RowKit (Below)
section
variable{P:Program}{env:Env}{st:List AO}{dst:Option Tmp}{ty:TypeId}{pos:String}{after:Array Edge}{guard:Option (Nat×Bool)}
theorem vS{T:TypeId}{x:Operand}{r:AV}{st':List AO}(h:rgX P env st T x=some (r,st')):fk P env st ⟨dst, .range T x,ty,pos,after,guard⟩ r st':=λm φ a w hs he=>by
 have hnew:∀b,(Cz.blk w.heap.size).has b→w.heap.size≤b:=λb hb=>by simp only[Cz.has] at hb;omega
 unfold rgX at h
 split at h
 ·rename_i kt et id hT hx
  split at h
  ·rename_i es xs cl hst
   simp only[au,Prod.mk.injEq] at h
   obtain⟨rfl,rfl⟩:=h
   have hra:=bi he hx
   obtain⟨b,h1,h2⟩:=gf he hx
   obtain⟨b',hbb,h0,l,g1,g2,g3⟩:=hs.obj id _ _ hst h1
   simp only[Cz.blk.injEq] at hbb
   subst hbb
   have hF:=Fz.alloc hs (.mapIter (some b) cl #[] cl)
   have hk:∀c,c<w.heap.size→(w.alloc (.mapIter (some b) cl #[] cl)).heap[c]? =w.heap[c]? :=λc hc=>bT hc
   rw[h2] at hra
   refine⟨.pointer (some ⟨w.heap.size,0,none⟩),w.alloc (.mapIter (some b) cl #[] cl),m++ [.blk w.heap.size],φ, .inl ?_,Ev.push hs hF hk sM rfl rfl rfl hnew,SR.push hs hF hk sM ⟨_,rfl,hs.lt _ (Nat.le_refl _),some b,heap_alloc_new w _,RA.mono (Pre.append m _) hF _ _ hra⟩ hnew,?_⟩
   ·simp[execOp,h2,Instr.range,run_underlying hT,MapKept.run_getObj_map g1]
   ·simp only[RA];exact⟨_,by rw[←hs.len];simp,rfl⟩
  ·cases h
 ·rename_i kt et hT hx
  simp only[au,Prod.mk.injEq] at h
  obtain⟨rfl,rfl⟩:=h
  have h2:=bh he hx
  have hF:=Fz.alloc hs (.mapIter none 0 #[] 0)
  have hk:∀c,c<w.heap.size→(w.alloc (.mapIter none 0 #[] 0)).heap[c]? =w.heap[c]? :=λc hc=>bT hc
  refine⟨.pointer (some ⟨w.heap.size,0,none⟩),w.alloc (.mapIter none 0 #[] 0),m++ [.blk w.heap.size],φ, .inl ?_,Ev.push hs hF hk sM rfl rfl rfl hnew,SR.push hs hF hk sM ⟨_,rfl,hs.lt _ (Nat.le_refl _),none,heap_alloc_new w _,RAv⟩ hnew,?_⟩
  ·simp[execOp,h2,Instr.range,run_underlying hT]
  ·simp only[RA];exact⟨_,by rw[←hs.len];simp,rfl⟩
 ·cases h
theorem lq{s:Nat}:∀{es:List (Value×Nat)}{l:List MapEntry}{j:Nat},l.map (λe=>(e.key,e.born))=es→lu es s=some j→∃e,l[j]? =some e∧l.find? (·.born==s)=some e
 |[],l,j,_,h=>by cases h
 |p::es,[],j,hl,h=>by simp at hl
 |p::es,e::l,j,hl,h=>by
  simp only[List.map_cons,List.cons.injEq] at hl
  obtain⟨rfl,hl⟩:=hl
  unfold lu at h
  cases hb:Nat.beq e.born s with
  |true=>
   rw[hb] at h
   obtain rfl:=inS h
   refine⟨e,rfl,?_⟩
   have:=nbE hb
   rw[List.find?_cons_of_pos (by simp[this])]
  |false=>
   rw[hb,cdF] at h
   split at h
   ·rename_i i hi
    obtain rfl:=inS h
    obtain⟨e',h1,h2⟩:=lq hl hi
    refine⟨e',by simpa using h1,?_⟩
    rw[List.find?_cons_of_neg (by intro hh;rw[beq_iff_eq] at hh;rw[hh] at hb;simp at hb)]
    exact h2
   ·cases h
theorem wq{x:Operand}{r:AV}(h:enX env st x=some r):Yields P env st ⟨dst, .entry x,ty,pos,after,guard⟩ r:=λm φ a w hs he=>by
 unfold enX at h
 split at h
 ·rename_i iid hx
  split at h
  ·rename_i id since seen stp hit
   split at h
   ·rename_i s es xs cl hseen hmb
    cases hc:Nat.beq cl stp with
    |false=>rw[hc] at h;cases h
    |true=>
     rw[hc,cdT] at h
     have hc:=nbE hc
     subst hc
     split at h
     ·rename_i j hj
      split at h
      ·rename_i p r0 hp hr0
       obtain rfl:=inS h
       obtain⟨b,g1,g2⟩:=eZ he hx
       obtain⟨b',hbb,h0,sb,g3,g4⟩:=hs.obj iid _ _ hit g1
       simp only[Cz.blk.injEq] at hbb
       subst hbb
       simp only[RA] at g4
       obtain⟨mb,g5,g6⟩:=g4
       simp only[Value.map.injEq] at g6
       subst g6
       obtain⟨b2,hb2,q0,l,q1,q2,q3⟩:=hs.obj id _ _ hmb g5
       simp only[Cz.blk.injEq] at hb2
       subst hb2
       obtain⟨e,k1,k2⟩:=lq q2 hj
       have hpe:p=(e.key,e.born):=by
        have:(l.map (λe=>(e.key,e.born)))[j]? =some (e.key,e.born):=by rw[List.getElem?_map,k1];rfl
        rw[q2,hp] at this
        exact inS this
       subst hpe
       obtain⟨v,v1,v2⟩:=cS q3 hr0
       rw[List.getElem?_map,k1,Option.map_some,au] at v1
       subst v1
       refine⟨.tuple #[e.key,e.val],by simp only[RA];exact⟨_,rfl,aQ (lG _) (aQ v2 bV)⟩,λw' hb=>?_⟩
       have e1:w'.heap[b]? =some (.mapIter (some mb) since ⟨seen⟩ cl):=by rw[hb.block b (ct g3)];exact g3
       have e2:w'.heap[mb]? =some (.map ⟨l⟩ cl):=by rw[hb.block mb (ct q1)];exact q1
       have f1:(getObj b).run P w'= .ok (.mapIter (some mb) since ⟨seen⟩ cl) w':=by simp[getObj,Sem.run,e1]
       have f2:(getObj mb).run P w'= .ok (.map ⟨l⟩ cl) w':=by simp[getObj,Sem.run,e2]
       have f3:(⟨seen⟩:Array Nat).back? =some s:=by rw[←hseen];simp[Array.back?,List.getLast?_eq_getElem?]
       have f4:(⟨l⟩:Array MapEntry).find? (·.born==s)=some e:=by rw[←Array.find?_toList];exact k2
       simp[execOp,g2,Instr.entry,f1,f2,f3,f4]
      ·cases h
     ·cases h
   ·cases h
  ·cases h
 ·cases h
def DoesN(P:Program)(env:Env)(st:List AO)(o:Oper)(outs:List (AV×List AO)):Prop:=
 ∀m φ a w,SR m φ st w→EnvOk m φ w env a→∃v w' m' φ' p,p∈outs∧(execOp a.eval o).run P w= .ok (.value v) w'∧Ev m φ w m' φ' w'∧SR m' φ' p.2 w'∧RA m' φ' w' p.1 v
theorem SR.drew{m:List Cz}{φ:Nat→Nat}{w:World}(hs:SR m φ st w):SR m φ st w.drew:=hs.of_keep (λ_ _=>⟨rfl,rfl⟩) (λ_ _ _ h1 h2=>⟨h1,h2⟩) hs.lt
theorem itSet{m φ w}{iid b since stp stp':Nat}{seen seen':List Nat}{src:AV}{sb:Option Nat}(hs:SR m φ st w)(hi:st[iid]? =some (.it src since seen stp))(hb:m[iid]? =some (.blk b))(hsrc:RA m φ w src (.map sb)):
  Ev m φ w m φ { w with heap:=w.heap.setIfInBounds b (.mapIter sb since ⟨seen'⟩ stp') }∧SR m φ (st.set iid (.it src since seen' stp')) { w with heap:=w.heap.setIfInBounds b (.mapIter sb since ⟨seen'⟩ stp') }:=by
 obtain⟨b',hbb,h0,sb0,h1,h2⟩:=hs.obj iid _ _ hi hb
 simp only[Cz.blk.injEq] at hbb
 subst hbb
 have hlt:=ct h1
 have hne:∀b2,b2≠b→(w.heap.setIfInBounds b (.mapIter sb since ⟨seen'⟩ stp'))[b2]? =w.heap[b2]? :=λb2 hn=>by simp[Ne.symm hn]
 have hF:Fz φ w φ { w with heap:=w.heap.setIfInBounds b (.mapIter sb since ⟨seen'⟩ stp') }:=λb2 off c g1 g2=>⟨g1,by
  have hn:b2≠b:=λe=>by subst e;omega
  rw[bv (w':={ w with heap:=w.heap.setIfInBounds b (.mapIter sb since ⟨seen'⟩ stp') }) (hne b2 hn)];exact g2⟩
 have hset:m.set iid (.blk b)=m:=by
  apply List.ext_getElem?
  intro i
  by_cases hii:iid=i
  ·subst hii;rw[List.getElem?_set_self (giS.1 hb).1,hb]
  ·rw[List.getElem?_set_ne hii]
 have:=ig (w':={ w with heap:=w.heap.setIfInBounds b (.mapIter sb since ⟨seen'⟩ stp') }) (φ':=φ) (o':= .it src since seen' stp') (c':= .blk b) hs hi rfl hb rfl rfl rfl rfl sM (λb2 hb2 hn=>⟨hne b2 (λe=>hn (by rw[e];rfl)),rfl⟩) hF (λb2 hb2=>hs.lt b2 (by simpa using hb2)) (λb2 hb2=> .inl hb2)
  (by rw[hset];exact⟨b,rfl,h0,sb,by simp[hlt],RA.mono (Pre.refl m) hF _ _ hsrc⟩)
 rwa [hset] at this
theorem pV{w:World}{n:Nat}(hn:0<n):∃j w1,j<n∧(w1=w∨w1=w.drew)∧(choose (.mapNext n)).run P w= .ok j w1:=by
 by_cases hf:n≤1
 ·exact⟨0,w,oM, .inl rfl,by simp[choose,Sem.run,Question.forced,hf]⟩
 ·exact⟨_,w.drew,Nat.mod_lt _ oM, .inr rfl,by
   simp only[choose,Sem.run,Question.forced,decide_eq_true_eq,hf,if_false,Question.cut]
   rfl⟩
theorem nx_ok{x:Operand}{iid id since stp cl:Nat}{seen:List Nat}{es:List (Value×Nat)}{xs:List AV}(hx:opv env x=some (.pt iid 0))(hit:st[iid]? =some (.it (.mp id) since seen stp))(hmb:st[id]? =some (.mb es xs cl))
  (ht:(!seen.isEmpty&&(!es.isEmpty&&es.all λp=>Nat.ble stp p.2))=false):DoesN P env st ⟨dst, .next x false,ty,pos,after,guard⟩ (kZ iid id since stp cl seen es xs st):=λm φ a w hs he=>by
 obtain⟨b,g1,g2⟩:=eZ he hx
 obtain⟨b',hbb,h0,sb,g3,g4⟩:=hs.obj iid _ _ hit g1
 simp only[Cz.blk.injEq] at hbb
 subst hbb
 have g4':=g4
 simp only[RA] at g4
 obtain⟨mb,g5,g6⟩:=g4
 simp only[Value.map.injEq] at g6
 subst g6
 obtain⟨b2,hb2,q0,l,q1,q2,q3⟩:=hs.obj id _ _ hmb g5
 simp only[Cz.blk.injEq] at hb2
 subst hb2
 have f1:(getObj b).run P w= .ok (.mapIter (some mb) since ⟨seen⟩ stp) w:=by simp[getObj,Sem.run,g3]
 have f2:(getObj mb).run P w= .ok (.map ⟨l⟩ cl) w:=by simp[getObj,Sem.run,q1]
 have f3:(!(⟨seen⟩:Array Nat).isEmpty&& !(⟨l⟩:Array MapEntry).isEmpty&&(⟨l⟩:Array MapEntry).all (λx=>decide (x.born≥stp)))=false:=by
  rw[←q2] at ht
  rw[←ht]
  have hb:∀e:MapEntry,decide (e.born≥stp)=Nat.ble stp e.born:=λe=>by rw[Bool.eq_iff_iff];simp[Nat.ble_eq]
  simp[List.all_map,Bool.and_assoc,Function.comp_def,hb]
 -- what is left
 have hlen:es.length=l.length:=by rw[←q2,List.length_map]
 have hout:∀e∈l,seen.contains e.born=false→∃r,RA m φ w r e.val∧(AV.tu [.d (.v (.bool true)),fC e.key,r],st.set iid (.it (.mp id) since (seen++ [e.born]) cl))∈kZ iid id since stp cl seen es xs st:=λe he hse=>by
  obtain⟨j,hj⟩:=List.mem_iff_getElem?.1 he
  have hxl:xs.length=l.length:=by have:=aC q3;rw[List.length_map] at this;exact this.symm
  have hjl:j<xs.length:=by rw[hxl];exact(giS.1 hj).1
  have hx0:xs[j]? =some xs[j]:=geG hjl
  obtain⟨v,v1,v2⟩:=cS q3 hx0
  rw[List.getElem?_map,hj,Option.map_some,au] at v1
  subst v1
  refine⟨xs[j],v2,List.mem_append_right _ (List.mem_filterMap.2 ⟨((e.key,e.born),xs[j]),?_,by rw[hse];rfl⟩)⟩
  refine List.mem_iff_getElem?.2 ⟨j,?_⟩
  rw[List.getElem?_zip_eq_some]
  exact⟨by rw[←q2,List.getElem?_map,hj];rfl,hx0⟩
 have hover:(∀e∈l,seen.contains e.born=false→¬e.born<since)→(AV.tu [.d (.v (.bool false))],st)∈kZ iid id since stp cl seen es xs st:=λh=>by
  have:es.all (λp=>seen.contains p.2|| !(Nat.blt p.2 since))=true:=by
   rw[←q2,List.all_map,List.all_eq_true]
   intro e he
   show(seen.contains e.born|| !(Nat.blt e.born since))=true
   cases hse:seen.contains e.born with
   |true=>rfl
   |false=>
    have h1:=h e he hse
    cases hb:Nat.blt e.born since with
    |false=>rfl
    |true=>exact absurd (by simpa[Nat.blt_eq] using hb) h1
  unfold kZ
  rw[this]
  simp
 have hrun:(execOp a.eval ⟨dst, .next x false,ty,pos,after,guard⟩).run P w=(((Instr.next (.pointer (some ⟨b,0,none⟩)) false ty).run P w).andThen λv w'=> .ok (.value v) w'):=by
  simp[execOp,g2]
 rw[hrun]
 simp only[Instr.next,Sem.run_bind,f1,f2,Result.andThen_ok,f3,Bool.false_eq_true,if_false]
 generalize hL:Array.filter (λe:MapEntry=> !(⟨seen⟩:Array Nat).contains e.born) ⟨l⟩=L
 have hLm:∀e:MapEntry,e∈L↔e∈l∧seen.contains e.born=false:=λe=>by
  rw[←hL,Array.mem_filter]
  simp
 generalize hC:((if(Array.filter (λx:MapEntry=>decide (x.born<since)) L).isEmpty=true then #[none] else #[])++Array.map some (Array.filter (λx:MapEntry=>decide (x.born<since)) L++Array.filter (λx:MapEntry=>decide (x.born≥since)) L):Array (Option MapEntry))=C
 have hsome:∀e:MapEntry,some e∈C→e∈L:=λe he=>by
  rw[←hC] at he
  rcases Array.mem_append.1 he with he|he
  ·split at he<;>simp at he
  ·obtain⟨e',h1,h2⟩:=Array.mem_map.1 he
   obtain rfl:=inS h2
   rcases Array.mem_append.1 h1 with h1|h1<;>exact(Array.mem_filter.1 h1).1
 have hnone:none∈C→∀e∈L,¬e.born<since:=λhe e hel hlt=>by
  rw[←hC] at he
  rcases Array.mem_append.1 he with he|he
  ·split at he
   ·rename_i hemp
    have:e∈Array.filter (λx:MapEntry=>decide (x.born<since)) L:=Array.mem_filter.2 ⟨hel,dcT hlt⟩
    rw[Array.isEmpty_iff.1 hemp] at this
    simp at this
   ·simp at he
  ·obtain⟨e',_,h2⟩:=Array.mem_map.1 he
   cases h2
 have hpos:0<C.size:=by
  rw[←hC,Array.size_append,Array.size_map,Array.size_append]
  split
  ·simp;omega
  ·rename_i hemp
   have:(Array.filter (λx:MapEntry=>decide (x.born<since)) L).size≠0:=λh0=>hemp (by rw[Array.eq_empty_of_size_eq_zero h0];rfl)
   omega
 obtain⟨j,w1,hj,hal,hrun1⟩:=pV (P:=P) (w:=w) hpos
 have hget:C[j]? =some C[j]:=Array.getElem?_eq_getElem hj
 have hmem:C[j]∈C:=Array.getElem_mem hj
 have hs1:SR m φ st w1:=by rcases hal with rfl|rfl;exact hs;exact hs.drew
 have hev1:∀{w2:World},Ev m φ w1 m φ w2→Ev m φ w m φ w2:=λ{w2} k=>by
  rcases hal with rfl|rfl
  ·exact k
  ·exact⟨k.pre,k.new,k.os,k.tape,k.output,k.size,k.keep,k.fz⟩
 simp only[hrun1,Result.andThen_ok,hget]
 cases hcj:C[j] with
 |none=>
  rw[hcj] at hmem
  exact⟨.tuple #[.bool false],w1,m,φ,_,hover (λe he hse=>hnone hmem e ((hLm e).2 ⟨he,hse⟩)),sM,hev1 (Ev.refl m φ w1),hs1,by simp[RA,RAs,RD]⟩
 |some e=>
  rw[hcj] at hmem
  obtain⟨hel,hes⟩:=(hLm e).1 (hsome e hmem)
  obtain⟨r,hr1,hr2⟩:=hout e hel hes
  obtain⟨k1,k2⟩:=itSet (seen':=seen++ [e.born]) (stp':=cl) hs1 hit g1 g4'
  have hb1:w1.heap[b]? =some (.mapIter (some mb) since ⟨seen⟩ stp):=by rcases hal with rfl|rfl<;>exact g3
  have hset:(setObj b (Obj.mapIter (some mb) since ((⟨seen⟩:Array Nat).push e.born) cl)).run P w1= .ok () { w1 with heap:=w1.heap.setIfInBounds b (.mapIter (some mb) since ⟨seen++ [e.born]⟩ cl) }:=by
   simp[setObj,Sem.run,hb1]
  refine⟨.tuple #[.bool true,e.key,e.val],_,m,φ,_,hr2,?_,hev1 k1,k2,?_⟩
  ·simp only[Sem.run_bind,hset,Result.andThen_ok,Sem.run_pure]
  ·have h1:=RA.mono (hev1 k1).pre (hev1 k1).fz _ _ hr1
   simp only[RA]
   exact⟨_,rfl,aQ RAv (aQ (lG _) (aQ h1 bV))⟩
end
end Go.Sk
namespace Go.Sk
open Go.RowKit (Below)
def dR{ε σ:Type}(step:ε→σ→Option σ):List ε→σ→Option σ
 |[],s=>some s
 |x::l,s=>(step x s).bind (dR step l)
def AllO{ε σ β:Type}(L:List ε)(step:ε→σ→Option σ)(K:σ→Option β)(s:σ)(r:β):Prop:=∀l,l.Perm L→(dR step l s).bind K=some r
open Classical in
noncomputable def gb{ε σ β:Type}(L:List ε)(step:ε→σ→Option σ)(K:σ→Option β)(s:σ):Option β:=if h:∃r,AllO L step K s r then some h.choose else none
theorem kS{ε σ β:Type}{L:List ε}{step:ε→σ→Option σ}{K:σ→Option β}{s:σ}{r:β}(h:gb L step K s=some r):AllO L step K s r:=by
 unfold gb at h
 split at h
 ·rename_i h'
  have:=h'.choose_spec
  rw[inS h] at this
  exact this
 ·cases h
theorem rR{ε σ β:Type}{L:List ε}{step:ε→σ→Option σ}{K:σ→Option β}{s:σ}{r:β}(h:AllO L step K s r):gb L step K s=some r:=by
 have h':∃r,AllO L step K s r:=⟨r,h⟩
 have h2:=h'.choose_spec L (List.Perm.refl L)
 unfold gb
 rw[dif_pos h',←h2]
 exact h L (List.Perm.refl L)
theorem AllO.nil{ε σ β:Type}{step:ε→σ→Option σ}{K:σ→Option β}{s:σ}{r:β}(h:AllO [] step K s r):K s=some r:=h [] (List.Perm.refl _)
theorem AllO.cons{ε σ β:Type}{L R:List ε}{x:ε}{step:ε→σ→Option σ}{K:σ→Option β}{s:σ}{r:β}(h:AllO R step K s r)(hp:R.Perm (x::L)):∃s1,step x s=some s1∧AllO L step K s1 r:=by
 cases hs:step x s with
 |none=>
  have:=h (x::L) hp.symm
  rw[dR,hs] at this
  cases this
 |some s1=>
  refine⟨s1,rfl,λl hl=>?_⟩
  have:=h (x::l) ((hl.cons x).trans hp.symm)
  rwa [dR,hs,bnS] at this
def kj{ε:Type}(L:List ε)(seen:List Nat):List ε:=(L.zipIdx.filter λp=> !seen.contains p.2).map (·.1)
theorem mu{ε:Type}(L:List ε):kj L []=L:=by
 unfold kj
 rw[List.filter_eq_self.2 (by intro p _;rfl)]
 apply List.ext_getElem?
 intro i
 rw[List.getElem?_map,List.getElem?_zipIdx]
 cases L[i]? <;>simp
theorem rL{ε:Type}{L:List ε}{seen:List Nat}(h:∀j,j<L.length→j∈seen):kj L seen=[]:=by
 unfold kj
 rw[List.filter_eq_nil_iff.2,List.map_nil]
 intro p hp
 have:=List.mem_zipIdx hp
 have:=h p.2 oM
 simp[this]
theorem pX{ε:Type}{L:List ε}{seen:List Nat}{j:Nat}{x:ε}(hx:L[j]? =some x)(hj:j∉seen):(kj L seen).Perm (x::kj L (seen++ [j])):=by
 have key:∀(l:List (ε×Nat)),(l.map (·.2)).Nodup→(x,j)∈l→(l.filter λp=> !seen.contains p.2).Perm ((x,j)::l.filter λp=> !(seen++ [j]).contains p.2):=by
  intro l
  induction l with
  |nil=>intro _ h;cases h
  |cons p l ih=>
   intro hn hm
   rw[List.map_cons,List.nodup_cons] at hn
   rcases List.mem_cons.1 hm with rfl|hm
   ·have e1:(!seen.contains (x,j).2)=true:=by simp[hj]
    have e2:(!(seen++ [j]).contains (x,j).2)=false:=sM
    rw[List.filter_cons,if_pos e1,List.filter_cons,if_neg (by rw[e2];decide)]
    have:(l.filter λp=> !seen.contains p.2)=l.filter λp=> !(seen++ [j]).contains p.2:=by
     refine List.filter_congr λq hq=>?_
     have:q.2≠j:=λe=>hn.1 (by have:=List.mem_map_of_mem (f:=Prod.snd) hq;rw[e] at this;exact this)
     simp[this]
    rw[this]
   ·have hp:p.2≠j:=λe=>hn.1 (by rw[e];exact List.mem_map_of_mem (f:=Prod.snd) hm)
    have e:(!(seen++ [j]).contains p.2)= !seen.contains p.2:=by simp[hp]
    have ih:=ih hn.2 hm
    rw[List.filter_cons,List.filter_cons,e]
    split
    ·exact(ih.cons p).trans (List.Perm.swap _ _ _)
    ·exact ih
 have hm:(x,j)∈L.zipIdx:=by
  rw[List.mem_zipIdx_iff_getElem?];exact hx
 have hn:(L.zipIdx.map (·.2)).Nodup:=by
  have:L.zipIdx.map (·.2)=List.range L.length:=by
   apply List.ext_getElem?
   intro i
   rw[List.getElem?_map,List.getElem?_zipIdx]
   by_cases hi:i<L.length
   ·simp[geG hi,List.getElem?_range hi]
   ·rw[List.getElem?_eq_none oM,List.getElem?_eq_none (by simp;omega)];rfl
  rw[this];exact List.nodup_range
 exact(key _ hn hm).map (·.1)
theorem SR.swap{m:List Cz}{φ:Nat→Nat}{w:World}{st:List AO}{id:Nat}{o o':AO}(hs:SR m φ st w)(hi:st[id]? =some o)(hl:o.live=true)(h:∀c,OR m φ w o c→OR m φ w o' c):SR m φ (st.set id o') w:=by
 have hlt:=(giS.1 hi).1
 refine⟨by rw[List.length_set];exact hs.len,λi x c h1 h2=>?_,hs.lt,λi j x x' c c' b h1 h2 l1 l2 g1 g2 b1 b2=>?_,hs.gl,hs.nb⟩
 ·by_cases hii:id=i
  ·subst hii
   rw[List.getElem?_set_self hlt,au] at h1
   subst h1
   exact h c (hs.obj _ _ _ hi h2)
  ·rw[List.getElem?_set_ne hii] at h1
   exact hs.obj _ _ _ h1 h2
 ·have old:∀(i:Nat)(x:AO),(st.set id o')[i]? =some x→x.live=true→∃y,st[i]? =some y∧y.live=true:=λi x hx hlx=>by
   by_cases hii:id=i
   ·subst hii;exact⟨o,hi,hl⟩
   ·rw[List.getElem?_set_ne hii] at hx;exact⟨x,hx,hlx⟩
  obtain⟨y,e1,e2⟩:=old i x h1 l1
  obtain⟨y',e3,e4⟩:=old j x' h2 l2
  exact hs.inj i j y y' c c' b e1 e3 e2 e4 g1 g2 b1 b2
section
variable{κ α:Type}
def cB(kf:κ→Value)(L:List (κ×α)):List (Value×Nat):=(L.map λp=>kf p.1).zipIdx
theorem te{m φ w}(kf:κ→Value)(g:α→AV)(L:List (κ×α))(c:Cz)(h:OR m φ w (mpO kf g L) c):OR m φ w (.mb (cB kf L) (L.map λp=>g p.2) L.length) c:=by
 obtain⟨b,h1,h2,l,cl,h3,h4,h5,h6,h7⟩:=h
 have hlen:l.length=L.length:=by have:=congrArg List.length h4;simpa using this
 subst h6
 refine⟨b,h1,h2,l,by rw[←hlen];exact h3,?_,by simpa[List.map_map,Function.comp_def] using h5⟩
 apply List.ext_getElem?
 intro i
 have k1:(l.map (·.key))[i]? =(L.map λp=>kf p.1)[i]? :=by rw[h4,List.map_map];rfl
 have k2:(l.map (·.born))[i]? =(List.range l.length)[i]? :=by rw[h7]
 rw[List.getElem?_map] at k1 k2⊢
 unfold cB
 rw[List.getElem?_zipIdx]
 cases hl:l[i]? with
 |none=>rw[hl,Option.map_none] at k1;rw[←k1];rfl
 |some e=>
  rw[hl,Option.map_some] at k1 k2
  rw[←k1]
  have hi:i<l.length:=(giS.1 hl).1
  rw[List.getElem?_range hi,au] at k2
  simp[k2]
theorem th{m φ w}(kf:κ→Value)(g:α→AV)(L:List (κ×α))(c:Cz)(h:OR m φ w (.mb (cB kf L) (L.map λp=>g p.2) L.length) c):OR m φ w (mpO kf g L) c:=by
 obtain⟨b,h1,h2,l,h3,h4,h5⟩:=h
 have hlen:l.length=L.length:=by have:=congrArg List.length h4;simpa[cB] using this
 refine⟨b,h1,h2,l,L.length,h3,?_,by simpa[List.map_map,Function.comp_def] using h5,hlen.symm,?_⟩
 ·have:=congrArg (List.map Prod.fst) h4
  simpa[List.map_map,Function.comp_def,cB] using this
 ·have:=congrArg (List.map Prod.snd) h4
  simp only[List.map_map,Function.comp_def] at this
  rw[hlen]
  refine this.trans ?_
  unfold cB
  apply List.ext_getElem?
  intro i
  rw[List.getElem?_map,List.getElem?_zipIdx]
  by_cases hi:i<L.length
  ·simp[geG hi,List.getElem?_range hi]
  ·rw[List.getElem?_eq_none (by simp;omega),List.getElem?_eq_none (by simp;omega)];rfl
theorem m9{st:List AO}{id:Nat}{o:AO}(h:st[id]? =some o)(o':AO):(st.set id o').set id o=st:=by
 rw[List.set_set]
 apply List.ext_getElem?
 intro i
 by_cases hii:id=i
 ·subst hii;rw[List.getElem?_set_self (giS.1 h).1,h]
 ·rw[List.getElem?_set_ne hii]
variable{P:Program}{env:Env}{st:List AO}{dst:Option Tmp}{ty:TypeId}{pos:String}{after:Array Edge}{guard:Option (Nat×Bool)}
theorem o7{T kt et:TypeId}{x:Operand}{id:Nat}(kf:κ→Value)(g:α→AV)(L:List (κ×α))(hT:P.underlying T=some (.map kt et))(hx:opv env x=some (.mp id))(hi:st[id]? =some (mpO kf g L)):
  fk P env st ⟨dst, .range T x,ty,pos,after,guard⟩ (.pt st.length 0) (st++ [.it (.mp id) L.length [] L.length]):=λm φ a w hs he=>by
 have hlt:=(giS.1 hi).1
 have hs':=hs.swap hi rfl (te kf g L)
 have h1:rgX P env (st.set id (.mb (cB kf L) (L.map λp=>g p.2) L.length)) T x=some (.pt st.length 0,st.set id (.mb (cB kf L) (L.map λp=>g p.2) L.length)++ [.it (.mp id) L.length [] L.length]):=by
  unfold rgX
  rw[hT,hx]
  simp only[List.getElem?_set_self hlt,List.length_set]
 obtain⟨v,w',m',φ',k1,k2,k3,k4⟩:=vS (dst:=dst) (ty:=ty) (pos:=pos) (after:=after) (guard:=guard) h1 m φ a w hs' he
 refine⟨v,w',m',φ',k1,k2,?_,k4⟩
 have hg:(st.set id (.mb (cB kf L) (L.map λp=>g p.2) L.length)++ [.it (.mp id) L.length [] L.length])[id]? =some (.mb (cB kf L) (L.map λp=>g p.2) L.length):=by
  rw[List.getElem?_append_left (by rw[List.length_set];exact hlt),List.getElem?_set_self hlt]
 have:=k3.swap hg rfl (th kf g L)
 rwa [List.set_append_left _ _ (by rw[List.length_set];exact hlt),m9 hi] at this
theorem nT{x:Operand}{iid id N:Nat}{seen:List Nat}{j:Nat}(kf:κ→Value)(g:α→AV)(L:List (κ×α)){p:κ×α}(hx:opv env x=some (.pt iid 0))(hit:st[iid]? =some (.it (.mp id) N (seen++ [j]) N))(hi:st[id]? =some (mpO kf g L))(hN:N=L.length)(hj:L[j]? =some p):
  Yields P env st ⟨dst, .entry x,ty,pos,after,guard⟩ (.tu [fC (kf p.1),g p.2]):=λm φ a w hs he=>by
 subst hN
 have hlt:=(giS.1 hi).1
 have hne:id≠iid:=λe=>by subst e;rw[hi] at hit;cases hit
 have hs':=hs.swap hi rfl (te kf g L)
 have hjl:j<L.length:=(giS.1 hj).1
 have hb:∀(es:List (Value×Nat))(k n:Nat),(∀i,i<es.length→(es[i]?).map (·.2)=some (k+i))→n<es.length→lu es (k+n)=some n:=by
  intro es
  induction es with
  |nil=>intro k n _ h;simp at h
  |cons e es ih=>
   intro k n h hn
   unfold lu
   have h0:=h 0 sM
   simp only[List.getElem?_cons_zero,Option.map_some,au,Nat.add_zero] at h0
   cases n with
   |zero=>rw[h0,Nat.add_zero,Nat.beq_refl];rfl
   |succ n=>
    have:Nat.beq e.2 (k+(n+1))=false:=by
     cases hb:Nat.beq e.2 (k+(n+1)) with
     |false=>rfl
     |true=>have:=nbE hb;omega
    rw[this,cdF,show k+(n+1)=(k+1)+n by omega,ih (k+1) n (λi hi=>by
     have:=h (i+1) (by simpa using hi)
     rw[List.getElem?_cons_succ] at this
     rw[this];congr 1;omega) (by simpa using hn)]
 have hel:(cB kf L).length=L.length:=by simp[cB]
 have hej:(cB kf L)[j]? =some (kf p.1,j):=by
  unfold cB
  rw[List.getElem?_zipIdx,List.getElem?_map,hj];simp
 have hbl:lu (cB kf L) j=some j:=by
  have:=hb (cB kf L) 0 j (λi hi=>by
   unfold cB
   rw[hel] at hi
   rw[List.getElem?_zipIdx,List.getElem?_map,geG hi];simp) (by rw[hel];exact hjl)
  rwa [Nat.zero_add] at this
 refine wq (dst:=dst) (ty:=ty) (pos:=pos) (after:=after) (guard:=guard) (st:=st.set id (.mb (cB kf L) (L.map λp=>g p.2) L.length)) ?_ m φ a w hs' he
 unfold enX
 rw[hx]
 simp only[List.getElem?_set_ne hne,hit,List.getLast?_append,List.getLast?_singleton,Option.some_or,List.getElem?_set_self hlt,Nat.beq_refl,cdT,hbl,hej,List.getElem?_map,hj,Option.map_some]
theorem pi{e:En}{ops:Array Oper}{rest:List Oper}{o:Oper}{d:Nat}{x:Operand}{R:Env→List AO→Prop}{iid id N:Nat}{seen:List Nat}(kf:κ→Value)(g:α→AV)(L:List (κ×α))(hop:o.op= .next x false)(hx:opv env x=some (.pt iid 0))(hit:st[iid]? =some (.it (.mp id) N seen N))(hi:st[id]? =some (mpO kf g L))(hN:N=L.length)
  (hw:Wt ops env o true)(ho:o.dst=some d)(hd:Nat.ble (d+1) e.n=true)(h0:(∀j,j<L.length→j∈seen)→WL P e ops rest ((d, .tu [.d (.v (.bool false))])::env) st R)
  (h1:∀j p,L[j]? =some p→j∉seen→WL P e ops rest ((d, .tu [.d (.v (.bool true)),fC (kf p.1),g p.2])::env) (st.set iid (.it (.mp id) N (seen++ [j]) N)) R):WL P e ops (o::rest) env st R:=λm φ a w hinv=>by
 subst hN
 have hlt:=(giS.1 hi).1
 have hne:id≠iid:=λe=>by subst e;rw[hi] at hit;cases hit
 obtain⟨odst,oop,oty,opos,oaf,og⟩:=o
 simp only at hop ho
 subst hop
 subst ho
 have hs':=hinv.sr.swap hi rfl (te kf g L)
 have hel:(cB kf L).length=L.length:=by simp[cB]
 have hmem:∀q∈cB kf L,q.2<L.length:=λq hq=>by
  unfold cB at hq
  have:=List.mem_zipIdx hq
  simp at this;omega
 have ht:(!seen.isEmpty&&(!(cB kf L).isEmpty&&(cB kf L).all λp=>Nat.ble L.length p.2))=false:=by
  cases hE:cB kf L with
  |nil=>simp
  |cons q es=>
   have hq:=hmem q (by rw[hE];exact List.mem_cons_self)
   have:Nat.ble L.length q.2=false:=by
    cases hb:Nat.ble L.length q.2 with
    |false=>rfl
    |true=>have:=nbT hb;omega
   simp[this]
 have hit':(st.set id (.mb (cB kf L) (L.map λp=>g p.2) L.length))[iid]? =some (.it (.mp id) L.length seen L.length):=by rw[List.getElem?_set_ne hne];exact hit
 obtain⟨v,w',m',φ',p,hp,k1,k2,k3,k4⟩:=nx_ok (P:=P) (dst:=some d) (ty:=oty) (pos:=opos) (after:=oaf) (guard:=og) hx hit' (List.getElem?_set_self hlt) ht m φ a w hs' hinv.env
 unfold eI
 rw[if_pos (hw _ _ _ _ hinv.env)]
 refine .inl ?_
 simp only[Oper.wp,k1,Oper.upon]
 unfold kZ at hp
 rcases List.mem_append.1 hp with hp|hp
 ·cases hall:(cB kf L).all (λp=>seen.contains p.2|| !(Nat.blt p.2 L.length)) with
  |false=>rw[hall] at hp;cases hp
  |true=>
   rw[hall,cdT,List.mem_singleton] at hp
   subst hp
   have hsr:SR m' φ' st w':=by
    have:=k3.swap (List.getElem?_set_self hlt) rfl (th kf g L)
    rwa [m9 hi] at this
   have hi':=hinv.ev_put (d:=d) k2 hsr (nbT hd) k4
   refine h0 (λj hj=>?_) m' φ' _ w' hi'
   have hej:(cB kf L)[j]? =some (kf L[j].1,j):=by
    unfold cB
    rw[List.getElem?_zipIdx,List.getElem?_map,geG hj];simp
   have:=List.all_eq_true.1 hall _ (List.mem_of_getElem? hej)
   have hb:Nat.blt j L.length=true:=by simp[Nat.blt_eq,hj]
   simpa[hb] using this
 ·obtain⟨q,hq,hqe⟩:=List.mem_filterMap.1 hp
  obtain⟨j,hj⟩:=List.mem_iff_getElem?.1 hq
  rw[List.getElem?_zip_eq_some] at hj
  obtain⟨hj1,hj2⟩:=hj
  have hjl:j<L.length:=by rw[←hel];exact(giS.1 hj1).1
  have hej:(cB kf L)[j]? =some (kf L[j].1,j):=by
   unfold cB
   rw[List.getElem?_zipIdx,List.getElem?_map,geG hjl];simp
  rw[hej,au] at hj1
  rw[List.getElem?_map,geG hjl,Option.map_some,au] at hj2
  obtain⟨⟨q1,q2⟩,q3⟩:=q
  simp only[Prod.mk.injEq] at hj1
  obtain⟨rfl,rfl⟩:=hj1
  simp only at hj2 hqe
  subst hj2
  cases hse:seen.contains j with
  |true=>rw[hse] at hqe;cases hqe
  |false=>
   rw[hse,cdF,au] at hqe
   subst hqe
   have hg:((st.set id (.mb (cB kf L) (L.map λp=>g p.2) L.length)).set iid (.it (.mp id) L.length (seen++ [j]) L.length))[id]? =some (.mb (cB kf L) (L.map λp=>g p.2) L.length):=by
    rw[List.getElem?_set_ne (Ne.symm hne),List.getElem?_set_self hlt]
   have hsr:SR m' φ' (st.set iid (.it (.mp id) L.length (seen++ [j]) L.length)) w':=by
    have:=k3.swap hg rfl (th kf g L)
    rwa [List.set_comm _ _ (Ne.symm hne),m9 hi] at this
   have hi':=hinv.ev_put (d:=d) k2 hsr (nbT hd) k4
   exact h1 j L[j] (geG hjl) (by simpa using hse) m' φ' _ w' hi'
end
end Go.Sk
namespace Go.Sk
open Go.RowKit (Below)
open Go.MapKept (IsKey sameNow_of_keys run_getObj_map run_setObj_map run_checkKey run_findKey run_keyThatStays)
def AllN{ε σ β:Type}(L:List ε)(seen:List Nat)(step:ε→σ→Option σ)(K:σ→Option β)(s:σ)(r:β)(n:Nat):Prop:=AllO (kj L seen) step K s r∧(kj L seen).length≤n
theorem lR{ε σ β:Type}{L:List ε}{step:ε→σ→Option σ}{K:σ→Option β}{s:σ}{r:β}(h:gb L step K s=some r):AllN L [] step K s r L.length:=by
 refine⟨?_,?_⟩
 ·rw[mu];exact kS h
 ·rw[mu];exact Nat.le_refl _
theorem mR{ε σ β:Type}{L:List ε}{seen:List Nat}{step:ε→σ→Option σ}{K:σ→Option β}{s:σ}{r:β}{n:Nat}(h:AllN L seen step K s r n)(hs:∀j,j<L.length→j∈seen):K s=some r:=by
 have:=h.1
 rw[rL hs] at this
 exact this.nil
theorem AllN.pick{ε σ β:Type}{L:List ε}{seen:List Nat}{step:ε→σ→Option σ}{K:σ→Option β}{s:σ}{r:β}{n j:Nat}{x:ε}(h:AllN L seen step K s r n)(hx:L[j]? =some x)(hj:j∉seen):∃n' s1,n=n'+1∧step x s=some s1∧AllN L (seen++ [j]) step K s1 r n':=by
 have hp:=pX hx hj
 obtain⟨s1,h1,h2⟩:=h.1.cons hp
 have hl:=hp.length_eq
 have h3:=h.2
 rw[List.length_cons] at hl
 exact⟨n - 1,s1,oM,h1,h2,oM⟩
section
variable{P:Program}{env:Env}{st:List AO}{dst:Option Tmp}{ty:TypeId}{pos:String}{after:Array Edge}{guard:Option (Nat×Bool)}
variable{κ α:Type}[DecidableEq κ]
theorem nP{T kt et:TypeId}{d:TypeDesc}{x ki:Operand}{id:Nat}(kf:κ→Value)(g:α→AV)(L:List (κ×α)){k:κ}{z:α}{zv:Value}{r:AV}{b:Bool}(hT:P.underlying T=some (.map kt et))(hd:P.underlying kt=some d)(hK:KeyF d kf)
  (hx:opv env x=some (.mp id))(hi:st[id]? =some (mpO kf g L))(hk:opv env ki=some (.d (.v (kf k))))(hz:(P.info? et).bind (·.zero)=some zv)(hgz:∀m φ w,RA m φ w (g z) zv)(hr:g ((bH L k).getD z)=r)(hb:(bH L k).isSome=b):
  Yields P env st ⟨dst, .lookup T x ki true,ty,pos,after,guard⟩ (.tu [r, .d (.v (.bool b))]):=λm φ a w hs he=>by
 subst hr;subst hb
 obtain⟨b,h1,h2⟩:=gf he hx
 obtain⟨b',hbb,h0,l,cl,g1,g2,g3,g4⟩:=hs.obj id _ _ hi h1
 simp only[Cz.blk.injEq] at hbb
 subst hbb
 have hkeys:l.map (·.key)=L.map (λp=>kf p.1):=by rw[g2];simp
 have hkv:=bh he hk
 have hlt:=ct g1
 have tu:∀{x:AV}{v:Value}{c:Bool},RA m φ w x v→RA m φ w (.tu [x, .d (.v (.bool c))]) (.tuple #[v, .bool c]):=λh=>by
  simp only[RA];exact⟨_,rfl,aQ h (aQ RAv bV)⟩
 cases hinf:P.info? et with
 |none=>simp[hinf] at hz
 |some i=>
  simp only[hinf,bnS] at hz
  rcases e9 hK k L l 0 hkeys with⟨q1,q2,_⟩|⟨j,e,y,q1,q2,q3,q4,q5,_⟩
  ·refine⟨.tuple #[zv, .bool false],by rw[q1,Option.getD_none];exact tu (hgz m φ w),λw' hb=>?_⟩
   have g1':w'.heap[b]? =some (.map ⟨l⟩ cl):=by rw[hb.block b hlt];exact g1
   simp[execOp,Instr.lookup,h2,hkv,run_underlying hT,MapKept.run_getObj_map g1',run_checkKey hd (hK.key k),run_findKey hd q2,zeroValue,typeInfo,hinf,hz,Result.andThen]
  ·have hval:RA m φ w (g y) e.val:=by
    have:(((L.map λp=>(kf p.1,g p.2)).map (·.2)))[j]? =some (g y):=by simp[q2]
    obtain⟨v',hv1,hv2⟩:=cS g3 this
    simp only[List.getElem?_map,q1,Option.map_some,au] at hv1
    rw[hv1];exact hv2
   refine⟨.tuple #[e.val, .bool true],by rw[q3,Option.getD_some];exact tu hval,λw' hb=>?_⟩
   have g1':w'.heap[b]? =some (.map ⟨l⟩ cl):=by rw[hb.block b hlt];exact g1
   simp[execOp,Instr.lookup,h2,hkv,run_underlying hT,MapKept.run_getObj_map g1',run_checkKey hd (hK.key k),run_findKey hd q5,Result.andThen]
end
end Go.Sk
namespace Go.Sk
open Go.RowKit (Below)
def aO{α:Type}(E:α→List D)(F:Nat→α)(j:Nat):D:=List.getD (E (F (j / 2))) (j%2) (.v undef)
theorem wE(n:Nat)(f:Nat→D):Le (.ag (bg n λj=> .d (f j))) (.d (.ag (nZ n f))):=ak (by rw[nY];exact Les.refl _)
theorem jf{α:Type}{E:α→List D}{F:Nat→α}(hE:∀x,(E x).length=2)(n:Nat){i:Nat}(hi:i<n):
  ((bg (n*2) λj=> .d (aO E F j)).drop (i*2)).take 2=(E (F i)).map AV.d:=by
 have h2:=hE (F i)
 match hq:E (F i),h2 with
 |[x,y],_=>
  apply List.ext_getElem?
  intro j
  rw[List.getElem?_take]
  by_cases hj:j<2
  ·rw[if_pos hj,List.getElem?_drop]
   have h3:(bg (n*2) λj=>AV.d (aO E F j))[i*2+j]? =some (.d (aO E F (i*2+j))):=by
    simp[bg,show i*2+j<n*2 by omega]
   rw[h3]
   have e1:(i*2+j) / 2=i:=oM
   have e2:(i*2+j)%2=j:=oM
   rw[aO,e1,e2,hq]
   match j,hj with
   |0,_=>rfl
   |1,_=>rfl
  ·rw[if_neg hj]
   simp;omega
theorem kM{f:Nat→AV}(n:Nat):(bg n f).length=n:=by simp[bg]
theorem nX{α:Type}{E:α→List D}(F:Nat→α)(hE:∀x,(E x).length=2)(n:Nat){i:Nat}(hi:i<n)(v:α):
  (bg (n*2) λj=> .d (aO E F j)).take (i*2)++(E v).map AV.d++(bg (n*2) λj=> .d (aO E F j)).drop (i*2+2)=bg (n*2) λj=> .d (aO E (be F i v) j):=by
 have h2:=hE v
 match hq:E v,h2 with
 |[x,y],_=>
  apply List.ext_getElem?
  intro j
  have hl:=kM (f:=λj=>AV.d (aO E F j)) (n*2)
  by_cases hj:j<n*2
  ·have hr:(bg (n*2) λj=>AV.d (aO E (be F i v) j))[j]? =some (.d (aO E (be F i v) j)):=by simp[bg,hj]
   have hr0:(bg (n*2) λj=>AV.d (aO E F j))[j]? =some (.d (aO E F j)):=by simp[bg,hj]
   rw[hr]
   by_cases h1:j<i*2
   ·rw[List.append_assoc,List.getElem?_append_left (by rw[List.length_take];omega),List.getElem?_take,if_pos h1,hr0]
    have hne:j / 2≠i:=oM
    simp only[aO,be,show Nat.beq (j / 2) i=false from by cases hb:Nat.beq (j / 2) i with|false=>rfl|true=>exact absurd (nbE hb) hne,cdF]
   ·by_cases h3:j<i*2+2
    ·rw[List.getElem?_append_left (by rw[List.length_append,List.length_take];simp;omega),List.getElem?_append_right (by rw[List.length_take];omega),List.length_take,hl,Nat.min_eq_left oM]
     have he:j / 2=i:=oM
     simp only[aO,be,he,Nat.beq_refl,cdT,hq]
     obtain⟨q,rfl⟩:∃q,j=i*2+q:=⟨j - i*2,oM⟩
     have e1:i*2+q - i*2=q:=oM
     have e2:(i*2+q)%2=q:=oM
     rw[e1,e2]
     match q,(by omega:q<2) with
     |0,_=>rfl
     |1,_=>rfl
    ·rw[List.getElem?_append_right (by rw[List.length_append,List.length_take];simp;omega),List.getElem?_drop]
     have e1:i*2+2+(j - ((List.take (i*2) (bg (n*2) λj=>AV.d (aO E F j)))++List.map AV.d [x,y]).length)=j:=by
      rw[List.length_append,List.length_take,hl,Nat.min_eq_left oM];simp;omega
     rw[e1,hr0]
     have hne:j / 2≠i:=oM
     simp only[aO,be,show Nat.beq (j / 2) i=false from by cases hb:Nat.beq (j / 2) i with|false=>rfl|true=>exact absurd (nbE hb) hne,cdF]
  ·have hr:(bg (n*2) λj=>AV.d (aO E (be F i v) j))[j]? =none:=by simp[bg];omega
   rw[hr,List.getElem?_eq_none]
   rw[List.length_append,List.length_append,List.length_take,List.length_drop,hl]
   simp;omega
section
variable{P:Program}{e:En}{ops:Array Oper}{env:Env}{st:List AO}{R:Env→List AO→Prop}{dst:Option Tmp}{ty:TypeId}{pos:String}{after:Array Edge}{guard:Option (Nat×Bool)}
theorem qC{cs:List AV}{off n:Nat}{f:Nat→AV}(hlen:Nat.ble (off+n) cs.length=true)(h:(cs.drop off).take n=bg n f):cs=cs.take off++(bg n f++cs.drop (off+n)):=by
 rw[←h,←List.drop_drop,List.take_append_drop,List.take_append_drop]
theorem bw{α:Type}{T:TypeId}{x:Operand}{id off N n:Nat}{T':TypeId}{cs:List AV}(E:α→List D)(F:Nat→α){i:Int}(hE:∀x,(E x).length=2)(hN:N=n*2)(hx:opv env x=some (.pt id (off+i.toNat*2)))(hs:st[id]? =some (.row T' cs))(hT:aV P T=some true)(hn:bF P T=some 2)
  (hlen:Nat.ble (off+N) cs.length=true)(h:(cs.drop off).take N=bg N (λj=> .d (aO E F j)))(hg:bE n i=true):
  Yields P env st ⟨dst, .load T x,ty,pos,after,guard⟩ (.d (.ag (E (F i.toNat)))):=by
 subst hN
 have hle:=nbT hlen
 have h3:=(cU hg).2
 have hy:=mT (P:=P) (dst:=dst) (ty:=ty) (pos:=pos) (after:=after) (guard:=guard) (n:=2) hx hs hT hn (Nat.ble_eq_true_of_le oM)
 have e1:(cs.drop (off+i.toNat*2)).take 2=(E (F i.toNat)).map AV.d:=by
  rw[←jf (F:=F) hE n h3,←h,List.drop_take,List.drop_drop,List.take_take,Nat.min_eq_left oM]
 rw[e1] at hy
 intro m φ a w hsr he
 obtain⟨v,h5,h6⟩:=hy m φ a w hsr he
 exact⟨v,ak (Les.refl _) m φ w v h5,h6⟩
theorem ic{α:Type}{T:TypeId}{x:Operand}{id off N n fo:Nat}{T':TypeId}{cs:List AV}(E:α→List D)(F:Nat→α){i:Int}{p:D}(hE:∀x,(E x).length=2)(hN:N=n*2)(hfo:fo<2)(hp:(E (F i.toNat))[fo]? =some p)(hx:opv env x=some (.pt id (off+i.toNat*2+fo)))(hs:st[id]? =some (.row T' cs))(hT:aV P T=some false)
  (hlen:Nat.ble (off+N) cs.length=true)(h:(cs.drop off).take N=bg N (λj=> .d (aO E F j)))(hg:bE n i=true):
  Yields P env st ⟨dst, .load T x,ty,pos,after,guard⟩ (.d p):=by
 subst hN
 have hle:=nbT hlen
 have h3:=(cU hg).2
 refine pC hx hs hT ?_
 have e1:(cs.drop (off+i.toNat*2)).take 2=(E (F i.toNat)).map AV.d:=by
  rw[←jf (F:=F) hE n h3,←h,List.drop_take,List.drop_drop,List.take_take,Nat.min_eq_left oM]
 have e2:((cs.drop (off+i.toNat*2)).take 2)[fo]? =some (.d p):=by rw[e1,List.getElem?_map,hp];rfl
 rw[List.getElem?_take,if_pos hfo,List.getElem?_drop] at e2
 exact e2
theorem dT{α:Type}{T:TypeId}{x y:Operand}{id off N n:Nat}{T':TypeId}{cs cs':List AV}{r0:AV}(E:α→List D)(F:Nat→α)(v:α){i:Int}(hE:∀x,(E x).length=2)(hN:N=n*2)(hx:opv env x=some (.pt id (off+i.toNat*2)))(hs:st[id]? =some (.row T' cs))(hy:opv env y=some r0)(hle:Le r0 (.d (.ag (E v))))(hk1:((E v).map AV.d).all AV.ok1=true)
  (hn:bF P T=some 2)(hlen:Nat.ble (off+N) cs.length=true)(h:(cs.drop off).take N=bg N (λj=> .d (aO E F j)))(hg:bE n i=true)
  (hc:cs'=cs.take off++(bg N (λj=> .d (aO E (be F i.toNat v) j))++cs.drop (off+N))):
  fk P env st ⟨dst, .store T x y,ty,pos,after,guard⟩ (.d (.v undef)) (st.set id (.row T' cs')):=λm φ a w hsr he=>by
 subst hN
 have hlb:=hlen
 have hlen:=nbT hlen
 have h3:=(cU hg).2
 obtain⟨b,h1,h2⟩:=eZ he hx
 obtain⟨b',hbb,_,vs,h3',h4⟩:=hsr.obj id _ _ hs h1
 simp only[Cz.blk.injEq] at hbb
 subst hbb
 obtain⟨us,g1,g2⟩:=bK (hle m φ w _ (bi he hy)) rfl
 simp only[AV.cells] at g2
 have hul:=aC g2
 rw[List.length_map,hE] at hul
 have hvl:=aC h4
 have hst:=run_storeCells_at P b (off+i.toNat*2) T' us 0 ⟨vs⟩ w h3' (by simp;omega) (ip g2 hk1)
 simp only[Nat.add_zero,hul] at hst
 have e1:cs.take (off+i.toNat*2)++(E v).map AV.d++cs.drop (off+i.toNat*2+2)=cs':=by
  rw[hc,←nX F hE n h3 v]
  conv=>lhs;rw[qC hlb h]
  have hl:(cs.take off).length=off:=by rw[List.length_take];omega
  have hl2:=kM (f:=λj=>AV.d (aO E F j)) (n*2)
  rw[List.take_append,List.take_of_length_le (by rw[hl];omega),hl,show off+i.toNat*2 - off=i.toNat*2 by omega,List.take_append_of_le_length (by rw[hl2];omega)]
  rw[List.drop_append,List.drop_eq_nil_of_le (by rw[hl];omega),hl,show off+i.toNat*2+2 - off=i.toNat*2+2 by omega,List.drop_append_of_le_length (by rw[hl2];omega)]
  simp[List.append_assoc]
 have hnew:RAs m φ w cs' (vs.take (off+i.toNat*2)++us++vs.drop (off+i.toNat*2+2)):=by
  rw[←e1];exact aH (aH (cJ _ h4) g2) (cK _ h4)
 obtain⟨k1,k2⟩:=kC hsr hs h1 hnew
 refine⟨undef,_,m,φ, .inr ⟨?_,rfl⟩,k1,k2,RAv⟩
 have hsize:us.length=2:=oM
 simp[execOp,Instr.storeAt,Instr.sureAddr,h2,storeVar,g1,bu hn,hsize,hst]
theorem cN{T:TypeId}{x:Operand}{id off N:Nat}{T':TypeId}{cs:List AV}(f:Nat→D)(hx:opv env x=some (.pt id off))(hs:st[id]? =some (.row T' cs))(hT:aV P T=some true)(hn:bF P T=some N)(hlen:Nat.ble (off+N) cs.length=true)(h:(cs.drop off).take N=bg N (λj=> .d (f j))):
  Yields P env st ⟨dst, .load T x,ty,pos,after,guard⟩ (.d (.ag (nZ N f))):=by
 have hy:=mT (P:=P) (dst:=dst) (ty:=ty) (pos:=pos) (after:=after) (guard:=guard) hx hs hT hn hlen
 rw[h] at hy
 intro m φ a w hsr he
 obtain⟨v,h5,h6⟩:=hy m φ a w hsr he
 exact⟨v,wE N f m φ w v h5,h6⟩
theorem pO{α:Type}{E:α→List D}{F:Nat→α}(hE:∀x,(E x).length=2)(n:Nat){i:Nat}(hi:i<n):((nZ (n*2) (aO E F)).drop (i*2)).take 2=E (F i):=by
 have h:=jf (F:=F) hE n hi
 have e:(bg (n*2) λj=>AV.d (aO E F j))=(nZ (n*2) (aO E F)).map AV.d:=by rw[nY]
 rw[e,←List.map_drop,←List.map_take] at h
 have inj:∀{a b:List D},a.map AV.d=b.map AV.d→a=b:=λ{a b} h=>by
  have:=congrArg (List.map λx:AV=>match x with| .d d=>d|_=> .v undef) h
  simpa[List.map_map,Function.comp_def] using this
 exact inj h
theorem cX{α:Type}{T len N:Nat}{bb:Bool}{x ix:Operand}{ps:List D}(E:α→List D)(F:Nat→α){kk:IntKind}{i:Int}(hE:∀x,(E x).length=2)(hN:N=len*2)(hT:fS P T=some (len,2,bb))(hx:opv env x=some (.d (.pc ps)))(hi:opv env ix=some (.d (.v (.int kk i))))
  (h:ps.take N=nZ N (aO E F))(hg:bE len i=true):Yields P env st ⟨dst, .indexAddr T x ix,ty,pos,after,guard⟩ (.d (.pc (E (F i.toNat)))):=λm φ a w _ he=>by
 subst hN
 obtain⟨b,off,h2,h3⟩:=jM he hx
 have h5:=(cU hg).2
 refine⟨_,by
  simp only[RA,RD]
  refine⟨b,off+i.toNat*2,rfl,?_⟩
  rw[←pO (F:=F) hE len h5,←h]
  exact jx _ (jy _ (jx _ h3)),λw' _=>?_⟩
 simp[execOp,h2,bh he hi,dE (P:=P) (kk:=kk) (b:=b) (off:=off) hT (aT hg) (aS hg) w']
theorem tG{β:Type}{E:β→List D}{F:Nat→β}{cs:List AV}{off N n:Nat}(hE:∀x,(E x).length=2)(hN:N=n*2)(h:(cs.drop off).take N=bg N (λj=> .d (aO E F j))){i:Int}(hg:bE n i=true):(cs.drop (off+i.toNat*2)).take 2=(E (F i.toNat)).map AV.d:=by
 subst hN
 have h3:=(cU hg).2
 rw[←jf (F:=F) hE n h3,←h,List.drop_take,List.drop_drop,List.take_take,Nat.min_eq_left oM]
theorem tF{β:Type}{E:β→List D}{cs:List AV}{off N n:Nat}(F:Nat→β)(hE:∀x,(E x).length=2)(hN:N=n*2)(hlen:Nat.ble (off+N) cs.length=true)(h:(cs.drop off).take N=bg N (λj=> .d (aO E F j))){i:Int}(hg:bE n i=true)(v:β){cs':List AV}
  (hc:cs'=cs.take off++(bg N (λj=> .d (aO E (be F i.toNat v) j))++cs.drop (off+N))):cs'=cs.take (off+i.toNat*2)++(E v).map AV.d++cs.drop (off+i.toNat*2+2):=by
 subst hN
 have hlb:=hlen
 have hlen:=nbT hlen
 have h3:=(cU hg).2
 have e:=qC hlb h
 have hl:(cs.take off).length=off:=by rw[List.length_take];omega
 have hl2:=kM (f:=λj=>AV.d (aO E F j)) (n*2)
 have t1:cs.take (off+i.toNat*2)=cs.take off++(bg (n*2) λj=>AV.d (aO E F j)).take (i.toNat*2):=by
  conv=>lhs;rw[e]
  rw[List.take_append,List.take_of_length_le (by rw[hl];omega),hl,show off+i.toNat*2 - off=i.toNat*2 by omega,List.take_append_of_le_length (by rw[hl2];omega)]
 have t2:cs.drop (off+i.toNat*2+2)=(bg (n*2) λj=>AV.d (aO E F j)).drop (i.toNat*2+2)++cs.drop (off+n*2):=by
  conv=>lhs;rw[e]
  rw[List.drop_append,List.drop_eq_nil_of_le (by rw[hl];omega),hl,show off+i.toNat*2+2 - off=i.toNat*2+2 by omega,List.drop_append_of_le_length (by rw[hl2];omega),List.nil_append]
 rw[hc,←nX F hE n h3 v,t1,t2]
 simp[List.append_assoc]
end
end Go.Sk
namespace Go.Sk
open Go.RowKit (Below)
def kvs(ky:Nat→Value):Nat→List D→List AV
 |_,[]=> []
 |j,d::ds=> .kv (ky j) d::kvs ky (j+1) ds
theorem qT(ky:Nat→Value):∀(j:Nat)(ds:List D),(kvs ky j ds).length=ds.length
 |_,[]=>rfl
 |j,_::ds=>by rw[kvs,List.length_cons,qT ky (j+1) ds,List.length_cons]
theorem Le.kv(y:Value)(x:D):Le (.kv y x) (.d x):=λ_ _ _ _ h=>by simp only[RA] at h⊢;exact h.2
def AV.stabb:AV→Bool
 | .u=>true
 | .d x=>x.gnd.isSome
 | .pt _ _=>true
 | .mp _=>true
 | .fn _ [.pt _ _] []=>true
 |_=>false
def AV.stabs:List AV→Bool
 |[]=>true
 |x::xs=>x.stabb&&AV.stabs xs
theorem rn{m φ φ' w w'}{x:AV}{v:Value}(hx:x.stabb=true)(h:RA m φ w x v):RA m φ' w' x v:=by
 cases x with
 |u=>simp[RA]
 |d x=>
  simp only[AV.stabb] at hx
  obtain⟨y,hy⟩:=Option.isSome_iff_exists.1 hx
  simp only[RA] at h⊢
  rw[t5 h hy]
  exact qd hy
 |pt id off=>simpa[RA] using h
 |mp id=>simpa[RA] using h
 |fn f a b=>
  unfold AV.stabb at hx
  split at hx
  ·rename_i x heq;cases heq
  ·rename_i x heq;cases heq
  ·rename_i x heq;cases heq
  ·rename_i x heq;cases heq
  ·rename_i x g i o heq
   simp only[AV.fn.injEq] at heq
   obtain⟨_,rfl,rfl⟩:=heq
   simpa[RA,RAs] using h
  ·cases hx
 |_=>simp[AV.stabb] at hx
theorem jA{m φ φ' w w'}:∀{xs:List AV}{vs:List Value},AV.stabs xs=true→RAs m φ w xs vs→RAs m φ' w' xs vs
 |[],_,_,h=>by simpa[RAs] using h
 |x::xs,vs,hx,h=>by
  simp only[AV.stabs,Bool.and_eq_true] at hx
  simp only[RAs] at h⊢
  obtain⟨c,cs,h1,h2,h3⟩:=h
  exact⟨c,cs,h1,rn hx.1 h2,jA hx.2 h3⟩
theorem fW{m φ w}:∀{xs ys:List AV}{vs:List Value},RAs m φ w (xs++ys) vs→∃us ws,vs=us++ws∧RAs m φ w xs us∧RAs m φ w ys ws
 |[],ys,vs,h=>⟨[],vs,rfl,bV,h⟩
 |x::xs,ys,vs,h=>by
  rw[List.cons_append] at h
  simp only[RAs] at h
  obtain⟨c,cs,rfl,h2,h3⟩:=h
  obtain⟨us,ws,rfl,h4,h5⟩:=fW h3
  exact⟨c::us,ws,rfl,aQ h2 h4,h5⟩
inductive Stabs:List AO→Prop
 |nil:Stabs []
 |row {T cs l}:AV.stabs cs=true→Stabs l→Stabs (.row T cs::l)
 |mp {κ α:Type} {kf:κ→Value} {g:α→AV} {L:List (κ×α)} {l}:(∀z,(g z).stabb=true)→Stabs l→Stabs (mpO kf g L::l)
theorem mi{κ α:Type}{g:α→AV}(hg:∀z,(g z).stabb=true):∀L:List (κ×α),AV.stabs (L.map λp=>g p.2)=true
 |[]=>rfl
 |p::L=>by rw[List.map_cons,AV.stabs,hg,mi hg L];rfl
theorem Stabs.get{l:List AO}(h:Stabs l):∀{i:Nat}{o:AO},l[i]? =some o→o.live=true∧∀{m φ φ' w c},(∀b,c.has b→φ' b=0)→OR m φ w o c→OR m φ' w o c:=by
 induction h with
 |nil=>intro i o hi;simp at hi
 |row hc _ ih=>
  intro i o hi
  cases i with
  |zero=>
   simp only[List.getElem?_cons_zero,au] at hi
   subst hi
   refine⟨rfl,λhb ⟨b,h1,h2,vs,h3,h4⟩=>?_⟩
   subst h1
   exact⟨b,rfl,hb b rfl,vs,h3,jA hc h4⟩
  |succ i=>exact ih (by simpa using hi)
 | @mp κ α kf g L l hg _ ih=>
  intro i o hi
  cases i with
  |zero=>
   simp only[List.getElem?_cons_zero,au] at hi
   subst hi
   refine⟨rfl,λhb ⟨b,h1,h2,l,cl,h3,h4,h5,h6⟩=>?_⟩
   subst h1
   refine⟨b,rfl,hb b rfl,l,cl,h3,h4,?_,h6⟩
   refine jA ?_ h5
   rw[List.map_map]
   exact mi hg L
  |succ i=>exact ih (by simpa using hi)
def Vw(st:List AO)(js:List Nat)(c:AV)(d:D):Prop:=∀{m:List Cz}{φ φv:Nat→Nat}{w:World}{v:Value},SR m φ st w→Fz φ w φv w→(∀b,(∀(j:Nat)(c:Cz),j∈js→m[j]? =some c→¬c.has b)→φv b=bj w b)→RA m φ w c v→RD φv w d v
def Vws(st:List AO)(js:List Nat):List AV→List D→Prop
 |[],[]=>True
 |c::cs,d::ds=>Vw st js c d∧Vws st js cs ds
 |_,_=>False
theorem pj{st:List AO}{js:List Nat}{m:List Cz}{φ φv:Nat→Nat}{w:World}(hs:SR m φ st w)(hF:Fz φ w φv w)(hv:∀b,(∀(j:Nat)(c:Cz),j∈js→m[j]? =some c→¬c.has b)→φv b=bj w b):
  ∀{cs:List AV}{ds:List D}{vs:List Value}{k:Nat}{ky:Nat→Value},Vws st js cs ds→RAs m φ w cs vs→(∀j v,vs[j]? =some v→ky (k+j)=v)→RAs m φv w (kvs ky k ds) vs
 |[],[],vs,k,ky,_,h,_=>by simpa[RAs,kvs] using h
 |c::cs,d::ds,vs,k,ky,hw,h,hk=>by
  simp only[RAs] at h
  obtain⟨v,vs',rfl,h2,h3⟩:=h
  simp only[kvs,RAs]
  refine⟨v,vs',rfl,?_,pj hs hF hv hw.2 h3 λj u hj=>by rw[Nat.add_right_comm,Nat.add_assoc];exact hk (j+1) u (by simpa using hj)⟩
  simp only[RA]
  exact⟨(hk 0 v rfl).symm,hw.1 hs hF hv h2⟩
 |[],_::_,_,_,_,hw,_,_=>hw.elim
 |_::_,[],_,_,_,hw,_,_=>hw.elim
theorem Vws.len{st:List AO}{js:List Nat}:∀{cs:List AV}{ds:List D},Vws st js cs ds→cs.length=ds.length
 |[],[],_=>rfl
 |_::_,_::_,h=>by rw[List.length_cons,List.length_cons,Vws.len h.2]
 |[],_::_,h=>h.elim
 |_::_,[],h=>h.elim
theorem oP{m φ w}:∀{ds:List D}{vs:List Value}{k:Nat}{ky:Nat→Value},RAs m φ w (kvs ky k ds) vs→∀j v,vs[j]? =some v→v=ky (k+j)
 |[],vs,k,ky,h,j,v,hj=>by simp only[kvs,RAs] at h;subst h;simp at hj
 |d::ds,vs,k,ky,h,j,v,hj=>by
  simp only[kvs,RAs] at h
  obtain⟨c,cs,rfl,h2,h3⟩:=h
  cases j with
  |zero=>
   simp only[List.getElem?_cons_zero,au] at hj
   subst hj
   simp only[RA] at h2
   exact h2.1
  |succ j=>
   rw[show k+(j+1)=k+1+j by omega]
   exact oP h3 j v (by simpa using hj)
theorem uM{w:World}{b off:Nat}{c:Value}(h:w.cell? ⟨b,off,none⟩=some c):off<bj w b:=by
 unfold World.cell? at h
 unfold bj
 split at h
 ·rename_i cs t fr hh
  simp only at hh
  rw[hh]
  simp only[Option.isSome_none,Bool.false_eq_true,if_false] at h
  exact(Array.getElem?_eq_some_iff.1 h).1
 ·cases h
theorem Vw.d{st:List AO}{js:List Nat}{x:D}:Vw st js (.d x) x:=λ_ hF _ h=>by
 simp only[RA] at h
 exact RD.mono hF _ _ h
theorem rj{m φ w φv}{α:Type}{E:α→List D}(hF:Fz φ w φv w){L:List α}{vs:List Value}(h:RAs m φ w (L.map (a9 E)).flatten vs):RFs φv w (L.map E).flatten vs:=by
 have e:(L.map (a9 E)).flatten=(L.map E).flatten.map AV.d:=by
  rw[List.map_flatten,List.map_map];rfl
 rw[e] at h
 have:=RAs.mono (Pre.refl m) hF _ _ h
 clear h e
 generalize(L.map E).flatten=ds at this
 induction ds generalizing vs with
 |nil=>simpa[RAs,RFs] using this
 |cons d ds ih=>
  simp only[List.map_cons,RAs] at this
  obtain⟨c,cs,rfl,h2,h3⟩:=this
  simp only[RFs]
  exact⟨c,cs,rfl,by simpa[RA] using h2,ih h3⟩
theorem qo{φv w}{T k:Nat}{y:Value}{es:List (List D)}{xs:List Value}(h1:w.ownsRow 0 T k y es.length xs)(hk:∀e∈es,e.length=k)(h2:RFs φv w es.flatten xs)(hφ:∀b,y.ownBlock=some b→φv b=bj w b):RD φv w (.sl es) y:=by
 simp only[RD]
 rcases h1.2 with⟨rfl,hn⟩|⟨g,cap,cur,rfl,_,hg,hnc,_,_,_⟩
 ·exact .inl ⟨List.eq_nil_of_length_eq_zero hn,none,0,rfl,λ_=>rfl⟩
 ·refine .inr ⟨g,0,k,cap,rfl,hnc,hk,eQ hk h2 λj v hj=>?_⟩
  have hc:=dw h1 hj
  rw[Nat.zero_add]
  have hlt:j<bj w g:=by
   have:w.cell? ⟨g,j,none⟩=some v:=hc
   unfold World.cell? at this
   unfold bj
   split at this
   ·rename_i cs t fr hh
    simp only at hh
    rw[hh]
    simp only[Option.isSome_none,Bool.false_eq_true,if_false] at this
    exact(Array.getElem?_eq_some_iff.1 this).1
   ·cases this
  exact⟨by rw[hφ g rfl];exact hlt,hc⟩
theorem Vw.os{st:List AO}{js:List Nat}{id ver T k:Nat}{α:Type}{E:α→List D}{L:List α}(hi:st[id]? =some (.os T k ver (L.map (a9 E))))(hn:id∉js)(hjl:∀j∈js,∃o,st[j]? =some o∧o.live=true)(hE:∀x,(E x).length=k):Vw st js (.os id ver) (.sl (L.map E)):=λ{m φ φv w v} hs hF hv h=>by
 simp only[RA] at h
 obtain⟨v0,y0,g1,g2,g3⟩:=h
 obtain⟨y',xs,e1,h1,h2,h3,h4⟩:=hs.obj id _ _ hi g1
 simp only[Cz.tok.injEq] at e1
 obtain⟨rfl,rfl⟩:=e1
 have hy:=g3 rfl
 subst hy
 rw[List.length_map] at h1
 refine qo (T:=T) (k:=k) (xs:=xs) (by rw[List.length_map];exact h1) (λe he=>by obtain⟨x,_,rfl⟩:=List.mem_map.1 he;exact hE x) (rj hF h2) λb hb=>hv b λj c hj hc hh=>?_
 obtain⟨o,ho,hl⟩:=hjl j hj
 have:=hs.inj id j _ o _ c b hi ho rfl hl g1 hc hb hh
 exact hn (this▸hj)
theorem Vw.fam{st:List AO}{js:List Nat}{oid vo To fid vf T k n:Nat}{α:Type}{E:α→List D}{L:List (List α)}(hi:st[oid]? =some (.os To 1 vo (aX fid vf n)))(hf:st[fid]? =some (.fam T k vf (bf E L)))(hL:n=L.length)(hn:oid∉js)(hn2:fid∉js)(hjl:∀j∈js,∃o,st[j]? =some o∧o.live=true)(hE:∀x,(E x).length=k):
  Vw st js (.os oid vo) (.sl (L.map λM=> [.sl (M.map E)])):=λ{m φ φv w v} hs hF hv h=>by
 subst hL
 simp only[RA] at h
 obtain⟨v0,y0,g1,g2,g3⟩:=h
 obtain⟨y',xs,e1,h1,h2,h3,h4⟩:=hs.obj oid _ _ hi g1
 simp only[Cz.tok.injEq] at e1
 obtain⟨rfl,rfl⟩:=e1
 have hy:=g3 rfl
 subst hy
 rw[eC] at h1
 obtain⟨cf,hcf⟩:∃c,m[fid]? =some c:=⟨_,geG (by rw[hs.len];exact dy hf)⟩
 obtain⟨ys,f1,f2,f3,f4⟩:=hs.obj fid _ _ hf hcf
 subst f1
 refine qo (T:=To) (k:=1) (xs:=xs) (by rw[List.length_map];exact h1) (λe he=>by obtain⟨x,_,rfl⟩:=List.mem_map.1 he;rfl) ?_ λb hb=>hv b λj c hj hc hh=>?_
 ·have e0:∀N:List (List α),(N.map λM=> [D.sl (M.map E)]).flatten=N.map λM=>D.sl (M.map E):=by
   intro N
   induction N with
   |nil=>rfl
   |cons M N ih=>simp[ih]
  rw[e0]
  have hfl:(aX fid vf L.length).flatten=(List.range L.length).map λi=>AV.osf fid i vf:=by
   unfold aX
   induction (List.range L.length) with
   |nil=>rfl
   |cons a l ih=>simp[ih]
  rw[hfl] at h2
  -- each member
  have key:∀(i:Nat)(M:List α)(u:Value),L[i]? =some M→RA m φ w (.osf fid i vf) u→RD φv w (.sl (M.map E)) u:=λi M u hM hu=>by
   simp only[RA] at hu
   obtain⟨v1,ys1,q1,q2,q3⟩:=hu
   rw[hcf] at q1
   simp only[au,Cz.fam.injEq] at q1
   obtain⟨rfl,rfl⟩:=q1
   have hyi:=q3 rfl
   obtain⟨xs2,p1,p2,p3,p4⟩:=f3 i (M.map (a9 E)) u (by simp[bf,hM]) hyi
   rw[List.length_map] at p1
   refine qo (T:=T) (k:=k) (xs:=xs2) (by rw[List.length_map];exact p1) (λe he=>by obtain⟨x,_,rfl⟩:=List.mem_map.1 he;exact hE x) (rj hF p2) λb hb=>hv b λj c hj hc hh=>?_
   obtain⟨o,ho,hl⟩:=hjl j hj
   have:=hs.inj fid j _ o _ c b hf ho rfl hl hcf hc ⟨u,List.mem_of_getElem? hyi,hb⟩ hh
   exact hn2 (this▸hj)
  have gen:∀(r:Nat)(N:List (List α))(us:List Value),(∀i M,N[i]? =some M→L[r+i]? =some M)→RAs m φ w ((List.range' r N.length).map λi=>AV.osf fid i vf) us→RFs φv w (N.map λM=>D.sl (M.map E)) us:=by
   intro r N
   induction N generalizing r with
   |nil=>intro us _ h;simpa[RAs,RFs] using h
   |cons M N ih=>
    intro us hN h
    simp only[List.length_cons,List.range'_succ,List.map_cons,RAs] at h
    obtain⟨c,cs,rfl,q2,q3⟩:=h
    simp only[List.map_cons,RFs]
    exact⟨c,cs,rfl,key r M c (by simpa using hN 0 M rfl) q2,ih (r+1) cs (λi M' hM'=>by rw[Nat.add_assoc,Nat.add_comm 1 i];exact hN (i+1) M' (by simpa using hM')) q3⟩
  rw[List.range_eq_range'] at h2
  exact gen 0 L xs (λi M h=>by rw[Nat.zero_add];exact h) h2
 ·obtain⟨o,ho,hl⟩:=hjl j hj
  have:=hs.inj oid j _ o _ c b hi ho rfl hl g1 hc hb hh
  exact hn (this▸hj)
theorem Stabs.blk{l:List AO}(h:Stabs l):∀{i:Nat}{o:AO},l[i]? =some o→∀{m φ w c},OR m φ w o c→∃b,c= .blk b∧φ b=0:=by
 induction h with
 |nil=>intro i o hi;simp at hi
 |row _ _ ih=>
  intro i o hi
  cases i with
  |zero=>
   simp only[List.getElem?_cons_zero,au] at hi
   subst hi
   rintro m φ w c ⟨b,h1,h2,_⟩
   exact⟨b,h1,h2⟩
  |succ i=>exact ih (by simpa using hi)
 |mp _ _ ih=>
  intro i o hi
  cases i with
  |zero=>
   simp only[List.getElem?_cons_zero,au] at hi
   subst hi
   rintro m φ w c ⟨b,h1,h2,_⟩
   exact⟨b,h1,h2⟩
  |succ i=>exact ih (by simpa using hi)
theorem Stabs.live{l:List AO}(h:Stabs l):iD l=true:=by
 induction h with
 |nil=>rfl
 |row _ _ ih=>simp only[iD,ih,Bool.and_true];rfl
 |mp _ _ ih=>simp only[iD,ih,Bool.and_true];rfl
theorem vl{m m' φ w}{ky:Nat→Value}:∀{ds:List D}{k:Nat}{vs:List Value},RAs m φ w (kvs ky k ds) vs→RAs m' φ w (kvs ky k ds) vs
 |[],_,_,h=>by simpa[kvs,RAs] using h
 |d::ds,k,vs,h=>by
  simp only[kvs,RAs] at h⊢
  obtain⟨c,cs,h1,h2,h3⟩:=h
  exact⟨c,cs,h1,by simpa[RA] using h2,vl h3⟩
theorem mD{id:Nat}{x:AO}:∀{js:List Nat}{st l:List AO},id∉js→fQ js st l→fQ js (st.set id x) l
 |[],_,[],_,_=>trivial
 |j::js,st,o::l,hn,h=>by
  have h1:id≠j:=λe=>hn (by simp[e])
  refine⟨by rw[List.getElem?_set_ne h1];exact h.1,mD (λh=>hn (List.mem_cons_of_mem _ h)) h.2⟩
 |[],_,_::_,_,h=>h.elim
 |_::_,_,[],_,h=>h.elim
theorem kT{id:Nat}{x:AO}:∀{js:List Nat}{os st:List AO},id∉js→(bG js os st).set id x=bG js os (st.set id x)
 |[],_,_,_=>by simp[bG]
 |j::js,[],_,_=>by simp[bG]
 |j::js,o::os,st,hn=>by
  have h1:id≠j:=λe=>hn (by simp[e])
  rw[bG,bG,kT (λh=>hn (List.mem_cons_of_mem _ h)),List.set_comm _ _ (Ne.symm h1)]
theorem SR.swap2{m:List Cz}{φ:Nat→Nat}{w:World}{st:List AO}{id:Nat}{o o':AO}(hs:SR m φ st w)(hi:st[id]? =some o)(hl:o.live=true)(h:∀c,m[id]? =some c→OR m φ w o c→OR m φ w o' c):SR m φ (st.set id o') w:=by
 have hlt:=(giS.1 hi).1
 refine⟨by rw[List.length_set];exact hs.len,λi x c h1 h2=>?_,hs.lt,λi j x x' c c' b h1 h2 l1 l2 g1 g2 b1 b2=>?_,hs.gl,hs.nb⟩
 ·by_cases hii:id=i
  ·subst hii
   rw[List.getElem?_set_self hlt,au] at h1
   subst h1
   exact h c h2 (hs.obj _ _ _ hi h2)
  ·rw[List.getElem?_set_ne hii] at h1
   exact hs.obj _ _ _ h1 h2
 ·have old:∀(i:Nat)(x:AO),(st.set id o')[i]? =some x→x.live=true→∃y,st[i]? =some y∧y.live=true:=λi x hx hlx=>by
   by_cases hii:id=i
   ·subst hii;exact⟨o,hi,hl⟩
   ·rw[List.getElem?_set_ne hii] at hx;exact⟨x,hx,hlx⟩
  obtain⟨y,e1,e2⟩:=old i x h1 l1
  obtain⟨y',e3,e4⟩:=old j x' h2 l2
  exact hs.inj i j y y' c c' b e1 e3 e2 e4 g1 g2 b1 b2
theorem qp{m φ w}:∀{n:Nat}{xs:List Value},xs.length=n→RAs m φ w (List.replicate n AV.u) xs
 |0,xs,h=>by rw[List.eq_nil_of_length_eq_zero h];exact bV
 |n+1,x::xs,h=>aQ (by simp[RA]) (qp (by simpa using h))
theorem nh{js:List Nat}:∀(n:Nat),AV.rens js (List.replicate n AV.u)=List.replicate n AV.u
 |0=>rfl
 |n+1=>by rw[List.replicate_succ,AV.rens,nh n];rfl
theorem p9{k:Nat}:∀(n:Nat),AV.lts k (List.replicate n AV.u)=true
 |0=>rfl
 |n+1=>by rw[List.replicate_succ,AV.lts,p9 n];rfl
theorem ou(js:List Nat)(a b:List AV):AV.rens js (a++b)=AV.rens js a++AV.rens js b:=by rw[cD,cD,cD,List.map_append]
theorem la{k:Nat}:∀{a b:List AV},AV.lts k a=true→AV.lts k b=true→AV.lts k (a++b)=true
 |[],_,_,h=>h
 |x::a,b,h,h'=>by
  simp only[AV.lts,Bool.and_eq_true] at h
  rw[List.cons_append,AV.lts,h.1,la h.2 h'];rfl
section
variable{P:Program}{e:En}{ops:Array Oper}{o:Oper}{rest:List Oper}{env:Env}{st:List AO}{R:Env→List AO→Prop}{d:Nat}
open Classical in
theorem uE{f:FuncId}{asz as0:List AV}{T:TypeId}{csA csB0:List AV}{dsA:List D}{mps0:List AO}{S:(Nat→Value)→AV→List AO→Prop}{m φ w}{vs:List Value}{id:Nat}{js' js:List Nat}(hjs:id::js'=js)
  (hc:∀ky,Ctr P f as0 (.row T (kvs ky 0 dsA++csB0)::mps0) (fa js.length (S ky)))(hs:SR m φ st w)(ha:RAs m φ w asz vs)
  (hl:Les asz (AV.rens js as0))(hla:AV.lts js.length as0=true)(hj:js.Nodup)
  (hi:st[id]? =some (.row T (csA++AV.rens js csB0)))(hwin:fQ js' st (mps0.map (AO.ren js)))(hlt:AV.lts js.length csB0=true)(hlt2:dc js.length mps0=true)(hlive:Stabs mps0)
  (hvw:Vws st js csA dsA)
  (hS:∀ky r new,S ky r new→∃csB1 mps1,new= .row T (kvs ky 0 dsA++csB1)::mps1∧r.stabb=true∧r.lt js.length=true∧AV.stabs csB1=true∧Stabs mps1∧AV.lts js.length csB1=true∧dc js.length mps1=true):
  Calls P f ⟨vs⟩ w λen w'=>∃ky v r csB1 mps1 m',en= .returned v∧S ky r (.row T (kvs ky 0 dsA++csB1)::mps1)∧Ev m φ w m' φ w'∧SR m' φ (bG js (.row T (csA++AV.rens js csB1)::mps1.map (AO.ren js)) st) w'∧RA m' φ w' (r.ren js) v:=by
 have hjl:js.length=js'.length+1:=by rw[←hjs];rfl
 have hid:id<st.length:=(giS.1 hi).1
 have hnj:id∉js':=by rw[←hjs] at hj;exact(List.nodup_cons.1 hj).1
 have hml:mps0.length=js'.length:=by have:=(e7 hwin).1;rwa [List.length_map] at this
 -- the struct asz the caller knows it
 obtain⟨cz,hcz⟩:∃c,m[id]? =some c:=⟨_,geG (by rw[hs.len];exact hid)⟩
 obtain⟨b,hb,hφb,vs0,hheap,hcells⟩:=hs.obj id _ _ hi hcz
 subst hb
 obtain⟨u1,u2,hvs0,hA,hB⟩:=fW hcells
 -- its first cells unknown
 let us:List AV:=List.replicate csA.length .u
 let st2:=st.set id (.row T (us++AV.rens js csB0))
 have hi2:st2[id]? =some (.row T (us++AV.rens js csB0)):=by show(st.set id _)[id]? =_;rw[List.getElem?_set_self hid]
 have hs2:SR m φ st2 w:=hs.swap2 hi rfl λc hc1 ⟨b,h1,h2,vs,h3,h4⟩=>⟨b,h1,h2,vs,h3,by
  obtain⟨xs,ys,rfl,h5,h6⟩:=fW h4
  exact aH (qp (aC h5)) h6⟩
 have hwin2:fQ js st2 ((.row T (us++csB0)::mps0).map (AO.ren js)):=by
  rw[←hjs] at hi2 hwin⊢
  refine⟨?_,mD hnj hwin⟩
  rw[hi2,AO.ren,ou,nh]
 have hstlt:dc js.length (.row T (us++csB0)::mps0)=true:=by
  simp only[dc,AO.lt,hlt2,Bool.and_true]
  exact la (p9 csA.length) hlt
 obtain⟨m0,hW,g1,g2,g3⟩:=mg hs2 hj hwin2 hstlt (by simp only[iD,hlive.live,Bool.and_true];rfl)
 have hm0l:m0.length=js.length:=by rw[g1.len,List.length_cons,hml,hjl]
 have hm00:m0[0]? =some (.blk b):=by rw[hW 0 id (by rw[←hjs];rfl)];exact hcz
 -- what lies in lent blocks is not data
 have hphi:∀b',In m0 b'→φ b'=0:=by
  rintro b' ⟨i,c,h1,h2⟩
  cases i with
  |zero=>
   rw[hm00,au] at h1
   subst h1
   simp only[Cz.has] at h2
   rw[←h2];exact hφb
  |succ i=>
   have hil:i<mps0.length:=by rw[hml];have:=(giS.1 h1).1;omega
   obtain⟨b2,rfl,h4⟩:=hlive.blk (geG hil) (g1.obj (i+1) _ c (by rw[List.getElem?_cons_succ];exact geG hil) h1)
   simp only[Cz.has] at h2
   rw[←h2];exact h4
 let φv:Nat→Nat:=λb=>if In m0 b then 0 else bj w b
 have hφv0:∀b',In m0 b'→φv b'=0:=λb' h=>if_pos h
 have hφv1:∀b',¬In m0 b'→φv b'=bj w b':=λb' h=>if_neg h
 have hF:Fz φ w φv w:=λb' off c h1 h2=>by
  refine⟨?_,h2⟩
  have hn:¬In m0 b':=λh=>by rw[hphi b' h] at h1;omega
  rw[hφv1 b' hn]
  exact(uM h2)
 have hvc:∀b',(∀(j:Nat)(c:Cz),j∈js→m[j]? =some c→¬c.has b')→φv b'=bj w b':=λb' h=>hφv1 b' λ⟨i,c,h1,h2⟩=>by
  have hil:i<js.length:=by rw[←hm0l];exact(giS.1 h1).1
  have:=hW i _ (geG hil)
  rw[h1] at this
  exact h _ c (List.getElem_mem hil) this.symm h2
 let ky:Nat→Value:=λj=>u1.getD j undef
 have hkv:RAs m0 φv w (kvs ky 0 dsA) u1:=vl (pj hs hF hvc hvw hA λj v hj=>by simp[ky,List.getD_eq_getElem?_getD,hj])
 have hB0:RAs m0 φv w csB0 u2:=RAs.mono (Pre.refl m0) hF _ _ ((RAs.ren hW csB0 u2 hlt).1 hB)
 have hsr0:SR m0 φv (.row T (kvs ky 0 dsA++csB0)::mps0) w:=by
  have back:∀{i:Nat}{o:AO},(AO.row T (kvs ky 0 dsA++csB0)::mps0)[i]? =some o→o.live=true→∃o2,(AO.row T (us++csB0)::mps0)[i]? =some o2∧o2.live=true:=λ{i o} h hl=>by
   cases i with
   |zero=>exact⟨_,rfl,rfl⟩
   |succ i=>exact⟨o,h,hl⟩
  refine⟨by rw[g1.len];rfl,λi o c h1 h2=>?_,λb' hb'=>?_,λi j o o' c c' b' h1 h2 l1 l2 k1 k2 e1 e2=>?_,hs.gl.mono hF,g1.nb⟩
  ·cases i with
   |zero=>
    simp only[List.getElem?_cons_zero,au] at h1
    subst h1
    rw[hm00,au] at h2
    subst h2
    exact⟨b,rfl,hφv0 b ⟨0,_,hm00,rfl⟩,vs0,hheap,by rw[hvs0];exact aH hkv hB0⟩
   |succ i=>
    refine(g1.obj (i+1) o c h1 h2).congr (Pre.refl m0) hF λb' hb'=>⟨rfl,?_⟩
    rw[hφv0 b' ⟨i+1,c,h2,hb'⟩,hphi b' ⟨i+1,c,h2,hb'⟩]
  ·by_cases h:In m0 b'
   ·exact hφv0 b' h
   ·rw[hφv1 b' h];simp[bj,hb']
  ·obtain⟨o2,p1,p2⟩:=back h1 l1
   obtain⟨o3,p3,p4⟩:=back h2 l2
   exact g1.inj i j o2 o3 c c' b' p1 p3 p2 p4 k1 k2 e1 e2
 have ha0:RAs m0 φv w as0 vs:=RAs.mono (Pre.refl m0) hF _ _ (g2 as0 vs hla (hl.ras ha))
 refine((hc ky).2 m0 φv w vs hsr0 ha0).mono ?_
 rintro en w' ⟨v,r,st1,m1,φ1,rfl,⟨q1,q2⟩,hev,hsr,hra⟩
 obtain⟨csB1,mps1,hnew,hr1,hr2,hst1,hst2,hlt3,hlt4⟩:=hS ky r _ q2
 have hml1:mps1.length+1=js.length:=by
  have:=congrArg List.length hnew
  rw[List.length_take,Nat.min_eq_left q1] at this
  simp at this;omega
 have hF':Fz φ w φ w':=λb' off c h1 h2=>⟨h1,(hev.fz b' off c (hF b' off c h1 h2).1 h2).2⟩
 have hst1get:∀(i:Nat)(o:AO),(AO.row T (kvs ky 0 dsA++csB1)::mps1)[i]? =some o→st1[i]? =some o:=λi o h=>by
  rw[←hnew] at h
  rw[List.getElem?_take] at h
  split at h
  ·exact h
  ·cases h
 let m1':=m1.take js.length
 have hm1':∀(i:Nat)(c:Cz),m1'[i]? =some c→m1[i]? =some c∧i<js.length:=λi c h=>by
  have h:(m1.take js.length)[i]? =some c:=h
  rw[List.getElem?_take] at h
  split at h
  ·rename_i hlt;exact⟨h,hlt⟩
  ·cases h
 have hin1:∀b',In m1' b'→φ b'=0:=by
  rintro b' ⟨i,c,h1,h2⟩
  rcases hev.new b' ⟨i,c,(hm1' i c h1).1,h2⟩ with h|h
  ·exact hphi b' h
  ·exact hs.lt b' h
 have hm10:m1[0]? =some (.blk b):=hev.pre.blk hm00
 obtain⟨b1,hb1,_,vs1,hheap1,hcells1⟩:=hsr.obj 0 _ _ (hst1get 0 _ rfl) hm10
 simp only[Cz.blk.injEq] at hb1
 subst hb1
 obtain⟨x1,x2,hvs1,hA1,hB1⟩:=fW hcells1
 have hx1:x1=u1:=by
  apply List.ext_getElem?
  intro j
  have l1:=aC hA1
  have l2:=aC hA
  rw[qT] at l1
  have l3:=hvw.len
  by_cases hj:j<x1.length
  ·have hj2:j<u1.length:=oM
   rw[geG hj,geG hj2]
   have:=oP hA1 j _ (geG hj)
   rw[this,Nat.zero_add]
   simp[ky,List.getD_eq_getElem?_getD,geG hj2]
  ·rw[List.getElem?_eq_none oM,List.getElem?_eq_none oM]
 have hsr':SR m1' φ (.row T (us++csB1)::mps1) w':=by
  have back:∀{i:Nat}{o:AO},(AO.row T (us++csB1)::mps1)[i]? =some o→o.live=true→∃o2,st1[i]? =some o2∧o2.live=true:=λ{i o} h hl=>by
   cases i with
   |zero=>exact⟨_,hst1get 0 _ rfl,rfl⟩
   |succ i=>exact⟨o,hst1get (i+1) o h,hl⟩
  refine⟨?_,λi o c h1 h2=>?_,λb' hb'=>hs.lt b' (Nat.le_trans hev.size hb'),λi j o o' c c' b' h1 h2 l1 l2 k1 k2 e1 e2=>?_,hs.gl.mono hF',?_⟩
  ·show(m1.take js.length).length=_
   rw[List.length_take,hsr.len,Nat.min_eq_left q1,List.length_cons,hml1]
  ·obtain⟨h2',hil⟩:=hm1' i c h2
   cases i with
   |zero=>
    simp only[List.getElem?_cons_zero,au] at h1
    subst h1
    rw[hm10,au] at h2'
    subst h2'
    refine⟨b,rfl,hφb,vs1,hheap1,?_⟩
    rw[hvs1]
    refine aH (qp ?_) (jA hst1 (RAs.take _ _ hlt3 hB1))
    rw[hx1];exact aC hA
   |succ i=>
    have ho:=hst1get (i+1) o h1
    have hO:=hsr.obj _ _ _ ho h2'
    have hO2:OR m1' φ1 w' o c:=OR.take (eV hlt4 (by simpa using h1)) hO
    exact(hst2.get (by simpa using h1)).2 (λb' hb'=>hin1 b' ⟨i+1,c,h2,hb'⟩) hO2
  ·obtain⟨o2,p1,p2⟩:=back h1 l1
   obtain⟨o3,p3,p4⟩:=back h2 l2
   exact hsr.inj i j o2 o3 c c' b' p1 p3 p2 p4 (hm1' i c k1).1 (hm1' j c' k2).1 e1 e2
  ·rintro b' ⟨i,c,h1,h2⟩
   exact hsr.nb b' ⟨i,c,(hm1' i c h1).1,h2⟩
 have hev':Ev m0 φ w m1' φ w':=by
  refine⟨λi c h=>?_,?_,hev.os,hev.tape,hev.output,hev.size,λb' hb' hn=>⟨(hev.keep b' hb' hn).1,rfl⟩,hF'⟩
  ·obtain⟨c',h1,h2⟩:=hev.pre i c h
   refine⟨c',?_,h2⟩
   show(m1.take js.length)[i]? =_
   rw[List.getElem?_take,if_pos (by rw[←hm0l];exact(giS.1 h).1)]
   exact h1
  ·rintro b' ⟨i,c,h1,h2⟩
   exact hev.new b' ⟨i,c,(hm1' i c h1).1,h2⟩
 have hlen1:(AO.row T (us++csB0)::mps0).length=(AO.row T (us++csB1)::mps1).length:=by rw[List.length_cons,List.length_cons,hml,hml1,hjl]
 have hstlt1:dc js.length (.row T (us++csB1)::mps1)=true:=by
  simp only[dc,AO.lt,hlt4,Bool.and_true]
  exact la (p9 csA.length) hlt3
 obtain⟨m',p1,p2,p3⟩:=g3 (.row T (us++csB1)::mps1) m1' φ w' hev' hsr' (by rw[hlen1];exact Nat.le_refl _) (by rw[hlen1,List.take_length];exact hstlt1)
 rw[hlen1,List.take_length] at p2
 refine⟨ky,v,r,csB1,mps1,m',rfl,by rw[←hnew];exact q2,p1,?_,p3 r v hr2 (rn hr1 (RA.take r v hr2 hra))⟩
 -- the first cells are known again
 have hput:bG js ((AO.row T (us++csB1)::mps1).map (AO.ren js)) st2=bG js' (mps1.map (AO.ren js)) (st.set id (.row T (us++AV.rens js csB1))):=by
  rw[List.map_cons,AO.ren,ou,nh,←hjs,bG]
  show bG _ _ ((st.set id _).set id _)=_
  rw[List.set_set]
 rw[hput] at p2
 have hgoal:bG js (.row T (csA++AV.rens js csB1)::mps1.map (AO.ren js)) st=bG js' (mps1.map (AO.ren js)) ((st.set id (.row T (us++AV.rens js csB1))).set id (.row T (csA++AV.rens js csB1))):=by
  rw[List.set_set,←hjs,bG]
 rw[hgoal,←kT hnj]
 have hm'id:m'[id]? =some (.blk b):=p1.pre.blk hcz
 refine p2.swap2 (o:= .row T (us++AV.rens js csB1)) ?_ rfl λc hc1 ⟨b2,h1,h2,vs2,h3,h4⟩=>?_
 ·have hjs'lt:∀j∈js',j<(st.set id (.row T (us++AV.rens js csB1))).length:=λj hj'=>by
   obtain⟨a,ha'⟩:=List.getElem?_of_mem hj'
   rw[List.length_set]
   exact((e7 hwin).2 a j ha').2
  rw[(gc (js:=js') (by rw[←hjs] at hj;exact(List.nodup_cons.1 hj).2) (by rw[List.length_map];omega) hjs'lt id).2 hnj,List.getElem?_set_self hid]
 ·rw[hm'id,au] at hc1
  subst hc1
  simp only[Cz.blk.injEq] at h1
  subst h1
  rw[hheap1] at h3
  simp only[au,Obj.cells.injEq,Array.mk.injEq,and_true,true_and] at h3
  subst h3
  refine⟨b,rfl,h2,vs1,hheap1,?_⟩
  obtain⟨z1,z2,hz,h5,h6⟩:=fW h4
  have hz1:z1.length=x1.length:=by
   have l1:=aC h5
   rw[hx1]
   have l2:=aC hA
   have:us.length=csA.length:=List.length_replicate
   omega
  have hzz:z1=x1∧z2=x2:=List.append_inj (by rw[←hz,hvs1]) hz1
  rw[hvs1,←hzz.2,hx1]
  exact aH (RAs.mono p1.pre p1.fz _ _ hA) h6
def nr(st:List AO):List Nat→Bool
 |[]=>true
 |j::js=>(match st[j]? with|some o=>o.live|none=>false)&&nr st js
theorem c7{st:List AO}:∀{js:List Nat},nr st js=true→∀j∈js,∃o,st[j]? =some o∧o.live=true
 |[],_,j,hj=>by cases hj
 |i::js,h,j,hj=>by
  simp only[nr,Bool.and_eq_true] at h
  rcases List.mem_cons.1 hj with rfl|hj
  ·have h1:=h.1
   split at h1
   ·rename_i o ho;exact⟨o,ho,h1⟩
   ·cases h1
  ·exact c7 h.2 j hj
theorem qm{f:FuncId}{c:Call}{x:Operand}{first caps asz as0:List AV}{T:TypeId}{csA csB0:List AV}{dsA:List D}{mps0:List AO}{S:(Nat→Value)→AV→List AO→Prop}{id:Nat}{js':List Nat}(js:List Nat)(hjs:id::js'=js)(hop:o.op= .call c)(hx:c.callee= .value x)
  (hf:opv env x=some (.fn (.func f) first caps))(has:dl env c.args.toList=some asz)
  (hc:∀ky,Ctr P f as0 (.row T (kvs ky 0 dsA++csB0)::mps0) (fa js.length (S ky)))
  (hl:Les (first++asz++caps) (AV.rens js as0))(hla:AV.lts js.length as0=true)(hj:js.Nodup)
  {csB:List AV}(hB:AV.rens js csB0=csB)(hi:st[id]? =some (.row T (csA++csB))){mps0':List AO}(hren:mps0.map (AO.ren js)=mps0')(hwin:fQ js' st mps0')(hlt:AV.lts js.length csB0=true)(hlt2:dc js.length mps0=true)(hlive:Stabs mps0)
  (hvw:Vws st js csA dsA)(hw:Wt ops env o true)(ho:o.dst=some d)(hd:Nat.ble (d+1) e.n=true)
  (h:∀ky r new,S ky r new→∃csB1 mps1 r' csB1' mps1',new= .row T (kvs ky 0 dsA++csB1)::mps1∧r.stabb=true∧r.lt js.length=true∧AV.stabs csB1=true∧Stabs mps1∧AV.lts js.length csB1=true∧dc js.length mps1=true∧
   r.ren js=r'∧AV.rens js csB1=csB1'∧mps1.map (AO.ren js)=mps1'∧WL P e ops rest ((d,r')::env) (bG js (AO.row T (csA++csB1')::mps1') st) R):WL P e ops (o::rest) env st R:=λm φ a w hi'=>by
 obtain⟨vs,h1,h2⟩:=fO (P:=P) hi'.env hop hx hf has (hc λ_=>undef).1
 unfold eI
 rw[if_pos (hw _ _ _ _ hi'.env)]
 refine .inl ?_
 simp only[Oper.wp,h2,Oper.upon,ho]
 subst hB
 subst hren
 refine(uE hjs hc hi'.sr h1 hl hla hj hi hwin hlt hlt2 hlive hvw λky r new hq=>?_).mono ?_
 ·obtain⟨csB1,mps1,_,_,_,k1,k2,k3,k4,k5,k6,k7,_⟩:=h ky r new hq
  exact⟨csB1,mps1,k1,k2,k3,k4,k5,k6,k7⟩
 ·rintro en w' ⟨ky,v,r,csB1,mps1,m',rfl,q1,q2,q3,q4⟩
  obtain⟨csB2,mps2,_,_,_,k1,_,_,_,_,_,_,rfl,rfl,rfl,k8⟩:=h ky r _ q1
  simp only[List.cons.injEq,AO.row.injEq,true_and] at k1
  obtain⟨k1,rfl⟩:=k1
  have:=List.append_cancel_left k1
  subst this
  exact k8 m' φ _ w' (hi'.ev_put q2 q3 (nbT hd) q4)
end
end Go.Sk
namespace Go.Sk
open Go.RowKit (Below)
section
variable{P:Program}{e:En}{ops:Array Oper}{rest:List Oper}{env:Env}{st:List AO}{R:Env→List AO→Prop}{κ:Ko}{x y:Code}
theorem Lv{a b:AV}(h:Le a b:=by
 repeat' (first|exact Le.refl _|exact Le.nil|exact Le.u _|exact Le.fs _|exact Les.refl _|exact trivial|refine aY ?_|refine ak ?_|refine Le.fnc ?_ ?_|refine⟨?_,?_⟩)):Le a b:=h
theorem Lw{a b:List AV}(h:Les a b:=by
 repeat' (first|exact Le.refl _|exact Le.nil|exact Le.u _|exact Le.fs _|exact Les.refl _|exact trivial|refine aY ?_|refine ak ?_|refine Le.fnc ?_ ?_|refine⟨?_,?_⟩)):Les a b:=h
theorem Rv{f:Func}{r:AV}(h:Res P f env st r:=by
 first|exact rs1 rfl (aR rfl)|exact rs2 rfl (aR rfl) (aR rfl)|exact bX rfl|exact rs3 rfl (aR rfl) (aR rfl) (aR rfl)):Res P f env st r:=h
theorem Ci{c:Operand}{t:Bool}{β:Sort _}{a b z:β}(h:(bif t then a else b)=z)(hc:opv env c=some (.d (.v (.bool t))))(h1:a=z→WC P e x κ env st)(h0:b=z→WC P e y κ env st):WC P e (.cond c x y) κ env st:=mV hc (λhh=>h1 (cG h hh)) (λhh=>h0 (cH h hh))
theorem Ix{α β:Type}{E Q:α→List D}{L:List α}{i:Int}{F:α→Option β}{r:β}{T n d:Nat}{bb:Bool}{x ix:Operand}{xr:AV}{kk:IntKind}{ty:TypeId}{pos:String}{after:Array Edge}(h:Option.bind (idx L i) F=some r)(hT:bp P T=some (n,bb))(hE:∀x,E x=Q x)(hx:opv env x=some xr)(hle:Le xr (.d (.sl (L.map E))))(hi:opv env ix=some (.d (.v (.int kk i))))(hd:Nat.ble (d+1) e.n=true)
  (k:∀x,idx L i=some x→F x=some r→WL P e ops rest ((d, .d (.pc (Q x)))::env) st R)(hn:∀x,(Q x).length=n:=by exact λ_=>rfl):WL P e ops (⟨some d, .indexAddr T x ix,ty,pos,after,none⟩::rest) env st R:=by
 obtain⟨z,hz,h⟩:=ae h
 exact WL.qn (ah hT hx hle hi (af hz) (an hE hz) (hn z)) hd (k z hz h)
theorem FA{a p:Prop}(ha:a)(h:a→p:=by
 intro h
 obtain rfl:=inS h
 exact am Rv Lv):p:=h ha
theorem FB{a p:Prop}(ha:a)(h:a→p:=by
 intro h
 subst h
 exact am Rv Lv):p:=h ha
variable{dd:Nat}{ty:TypeId}{pos:String}{after:Array Edge}
theorem Bd{T:TypeId}{x:Operand}{r:AV}{ds:List D}(hx:opv env x=some r)(hk:r.okc=true)(hc:Les r.cells (ds.map .d))(hd:Nat.ble (dd+1) e.n=true)(h:WL P e ops rest ((dd, .d (.pc ds))::env) st R):WL P e ops (⟨some dd, .box T x,ty,pos,after,none⟩::rest) env st R:=WL.s (jU hx hk hc).does (Wt.none rfl) rfl hd h
theorem Bx{T:TypeId}{x:Operand}{r:AV}(hx:opv env x=some r)(hk:r.okc=true)(hd:Nat.ble (dd+1) e.n=true)(h:WL P e ops rest ((dd, .pt st.length 0)::env) (st++ [.row T r.cells]) R):WL P e ops (⟨some dd, .box T x,ty,pos,after,none⟩::rest) env st R:=WL.s (b_box hx hk).does (Wt.none rfl) rfl hd h
theorem Al{T:TypeId}{vs:List Value}(hz:bn P T=some vs)(hd:Nat.ble (dd+1) e.n=true)(h:WL P e ops rest ((dd, .pt st.length 0)::env) (st++ [.row T (vs.map λv=> .d (.v v))]) R):WL P e ops (⟨some dd, .alloc T,ty,pos,after,none⟩::rest) env st R:=WL.s (uY hz).does (Wt.none rfl) rfl hd h
theorem Tv{a b:List AO}(h:SLe a b:=by
 first|exact SLe.refl _|repeat' (first|exact rfl|exact Le.refl _|exact Le.nil|exact Le.u _|exact Le.fs _|exact Les.refl _|exact trivial|refine aY ?_|refine ak ?_|refine Le.fnc ?_ ?_|refine⟨?_,?_⟩)):SLe a b:=h
theorem Cb{b c:Bool}(h:b=c):D.v (Value.bool b)=D.v (Value.bool c):=by rw[h]
theorem Re{α:Type}{a:α}{l l':List α}(k:l=l'):a::l=a::l':=by rw[k]
theorem Kv{n:Nat}{l:List AO}(h:dc n l=true:=by
 first|exact rfl|repeat' (first|exact rfl|refine ay rfl ?_|refine ay (qP _ _ _ _ _ _) ?_|refine ay (qb _ _ _ _ _ _) ?_|refine ay (ti _ _ _ _ _ _ _ rfl) ?_)):dc n l=true:=h
theorem Sb{a b:Env}(h:Sub a b:=by
 repeat' (first|exact Sub.nil _|refine Sub.cons rfl ?_ ?_|exact Le.refl _|exact Le.nil|exact Le.u _|exact Le.fs _|exact Les.refl _|exact trivial|refine aY ?_|refine ak ?_|refine Le.fnc ?_ ?_|refine⟨?_,?_⟩)):Sub a b:=h
section
universe uu
variable{β:Sort uu}{z:β}{n:Nat}{α0 α1 α2 α3 α4 α5 α6 α7 α8 α9 α10 α11 α12 α13 α14 α15 α16 α17 α18 α19 α20 α21 α22 α23 α24 α25 α26 α27 α28 α29 α30 α31 α32 α33 α34 α35:Type}
theorem Jn0(A:Env)(S:List AO){K:Unit→β}{F:(Unit→β)→β}(h:letk K F=z)(h1:∀k:Unit→β,F k=z→WC P e x (.lp (λu v=>k ()=z∧Sub (A) u∧SLe v (S)) κ) env st)(h2:K ()=z→WC P e y κ (A) (S)):WC P e (.seq x y) κ env st:=by
 refine cT _ (h1 K h) ?_
 rintro u v ⟨h,hs,hw⟩
 exact WC.sub hs (WC.weak hw (h2 h))
theorem En0{A:Env}{S:List AO}{k:Unit→β}(h:k ()=z)(h0:Sub (A) env:=by exact Sb)(h1:SLe st (S):=by exact Tv):WE P e .normal (.lp (λu v=>k ()=z∧Sub (A) u∧SLe v (S)) κ) env st:=de ⟨h,h0,h1⟩
theorem Jn1(A:α0→Env)(S:α0→List AO){K:α0→β}{F:(α0→β)→β}(h:letk K F=z)(h1:∀k:α0→β,F k=z→WC P e x (.lp (λu v=>∃x0,k x0=z∧Sub (A x0) u∧SLe v (S x0)) κ) env st)(h2:∀x0,K x0=z→WC P e y κ (A x0) (S x0)):WC P e (.seq x y) κ env st:=by
 refine cT _ (h1 K h) ?_
 rintro u v ⟨x0,h,hs,hw⟩
 exact WC.sub hs (WC.weak hw (h2 x0 h))
theorem Ln1(A:α0→Env)(S:α0→List AO)(L:Nat→α0→β){N:Nat}{i0:α0}(h:L N i0=z)(hz:∀x0,L 0 x0=z→False)(hs':∀n x0,L (n+1) x0=z→WC P e x (.lp (λu v=>∃y,(∃x0,L y x0=z∧Sub (A x0) u∧SLe v (S x0))∧y<n+1) κ) (A x0) (S x0))(h0:Sub (A i0) env:=by exact Sb)(h1:SLe st (S i0):=by exact Tv):WC P e (.loop x) κ env st:=by
 refine cL (λn u v=>∃x0,L n x0=z∧Sub (A x0) u∧SLe v (S x0)) (λn=>n) N ⟨_,h,h0,h1⟩ ?_
 rintro n u v ⟨x0,h,hs,hw⟩
 rcases n with _|n
 ·exact(hz x0 h).elim
 ·exact WC.sub hs (WC.weak hw (hs' n x0 h))
theorem En1{A:α0→Env}{S:α0→List AO}{k:α0→β}{i0:α0}(h:k i0=z)(h0:Sub (A i0) env:=by exact Sb)(h1:SLe st (S i0):=by exact Tv):WE P e .normal (.lp (λu v=>∃x0,k x0=z∧Sub (A x0) u∧SLe v (S x0)) κ) env st:=de ⟨_,h,h0,h1⟩
theorem Fn1{A:α0→Env}{S:α0→List AO}{L:Nat→α0→β}{i0:α0}(h:L n i0=z)(h0:Sub (A i0) env:=by exact Sb)(h1:SLe st (S i0):=by exact Tv):WE P e .normal (.lp (λu v=>∃y,(∃x0,L y x0=z∧Sub (A x0) u∧SLe v (S x0))∧y<n+1) κ) env st:=de ⟨n,⟨_,h,h0,h1⟩,Nat.lt_succ_self n⟩
theorem Jn2(A:α0→α1→Env)(S:α0→α1→List AO){K:α0→α1→β}{F:(α0→α1→β)→β}(h:letk K F=z)(h1:∀k:α0→α1→β,F k=z→WC P e x (.lp (λu v=>∃x0 x1,k x0 x1=z∧Sub (A x0 x1) u∧SLe v (S x0 x1)) κ) env st)(h2:∀x0 x1,K x0 x1=z→WC P e y κ (A x0 x1) (S x0 x1)):WC P e (.seq x y) κ env st:=by
 refine cT _ (h1 K h) ?_
 rintro u v ⟨x0,x1,h,hs,hw⟩
 exact WC.sub hs (WC.weak hw (h2 x0 x1 h))
theorem Ln2(A:α0→α1→Env)(S:α0→α1→List AO)(L:Nat→α0→α1→β){N:Nat}{i0:α0}{i1:α1}(h:L N i0 i1=z)(hz:∀x0 x1,L 0 x0 x1=z→False)(hs':∀n x0 x1,L (n+1) x0 x1=z→WC P e x (.lp (λu v=>∃y,(∃x0 x1,L y x0 x1=z∧Sub (A x0 x1) u∧SLe v (S x0 x1))∧y<n+1) κ) (A x0 x1) (S x0 x1))(h0:Sub (A i0 i1) env:=by exact Sb)(h1:SLe st (S i0 i1):=by exact Tv):WC P e (.loop x) κ env st:=by
 refine cL (λn u v=>∃x0 x1,L n x0 x1=z∧Sub (A x0 x1) u∧SLe v (S x0 x1)) (λn=>n) N ⟨_,_,h,h0,h1⟩ ?_
 rintro n u v ⟨x0,x1,h,hs,hw⟩
 rcases n with _|n
 ·exact(hz x0 x1 h).elim
 ·exact WC.sub hs (WC.weak hw (hs' n x0 x1 h))
theorem En2{A:α0→α1→Env}{S:α0→α1→List AO}{k:α0→α1→β}{i0:α0}{i1:α1}(h:k i0 i1=z)(h0:Sub (A i0 i1) env:=by exact Sb)(h1:SLe st (S i0 i1):=by exact Tv):WE P e .normal (.lp (λu v=>∃x0 x1,k x0 x1=z∧Sub (A x0 x1) u∧SLe v (S x0 x1)) κ) env st:=de ⟨_,_,h,h0,h1⟩
theorem Fn2{A:α0→α1→Env}{S:α0→α1→List AO}{L:Nat→α0→α1→β}{i0:α0}{i1:α1}(h:L n i0 i1=z)(h0:Sub (A i0 i1) env:=by exact Sb)(h1:SLe st (S i0 i1):=by exact Tv):WE P e .normal (.lp (λu v=>∃y,(∃x0 x1,L y x0 x1=z∧Sub (A x0 x1) u∧SLe v (S x0 x1))∧y<n+1) κ) env st:=de ⟨n,⟨_,_,h,h0,h1⟩,Nat.lt_succ_self n⟩
theorem Jn3(A:α0→α1→α2→Env)(S:α0→α1→α2→List AO){K:α0→α1→α2→β}{F:(α0→α1→α2→β)→β}(h:letk K F=z)(h1:∀k:α0→α1→α2→β,F k=z→WC P e x (.lp (λu v=>∃x0 x1 x2,k x0 x1 x2=z∧Sub (A x0 x1 x2) u∧SLe v (S x0 x1 x2)) κ) env st)(h2:∀x0 x1 x2,K x0 x1 x2=z→WC P e y κ (A x0 x1 x2) (S x0 x1 x2)):WC P e (.seq x y) κ env st:=by
 refine cT _ (h1 K h) ?_
 rintro u v ⟨x0,x1,x2,h,hs,hw⟩
 exact WC.sub hs (WC.weak hw (h2 x0 x1 x2 h))
theorem Ln3(A:α0→α1→α2→Env)(S:α0→α1→α2→List AO)(L:Nat→α0→α1→α2→β){N:Nat}{i0:α0}{i1:α1}{i2:α2}(h:L N i0 i1 i2=z)(hz:∀x0 x1 x2,L 0 x0 x1 x2=z→False)(hs':∀n x0 x1 x2,L (n+1) x0 x1 x2=z→WC P e x (.lp (λu v=>∃y,(∃x0 x1 x2,L y x0 x1 x2=z∧Sub (A x0 x1 x2) u∧SLe v (S x0 x1 x2))∧y<n+1) κ) (A x0 x1 x2) (S x0 x1 x2))(h0:Sub (A i0 i1 i2) env:=by exact Sb)(h1:SLe st (S i0 i1 i2):=by exact Tv):WC P e (.loop x) κ env st:=by
 refine cL (λn u v=>∃x0 x1 x2,L n x0 x1 x2=z∧Sub (A x0 x1 x2) u∧SLe v (S x0 x1 x2)) (λn=>n) N ⟨_,_,_,h,h0,h1⟩ ?_
 rintro n u v ⟨x0,x1,x2,h,hs,hw⟩
 rcases n with _|n
 ·exact(hz x0 x1 x2 h).elim
 ·exact WC.sub hs (WC.weak hw (hs' n x0 x1 x2 h))
theorem En3{A:α0→α1→α2→Env}{S:α0→α1→α2→List AO}{k:α0→α1→α2→β}{i0:α0}{i1:α1}{i2:α2}(h:k i0 i1 i2=z)(h0:Sub (A i0 i1 i2) env:=by exact Sb)(h1:SLe st (S i0 i1 i2):=by exact Tv):WE P e .normal (.lp (λu v=>∃x0 x1 x2,k x0 x1 x2=z∧Sub (A x0 x1 x2) u∧SLe v (S x0 x1 x2)) κ) env st:=de ⟨_,_,_,h,h0,h1⟩
theorem Fn3{A:α0→α1→α2→Env}{S:α0→α1→α2→List AO}{L:Nat→α0→α1→α2→β}{i0:α0}{i1:α1}{i2:α2}(h:L n i0 i1 i2=z)(h0:Sub (A i0 i1 i2) env:=by exact Sb)(h1:SLe st (S i0 i1 i2):=by exact Tv):WE P e .normal (.lp (λu v=>∃y,(∃x0 x1 x2,L y x0 x1 x2=z∧Sub (A x0 x1 x2) u∧SLe v (S x0 x1 x2))∧y<n+1) κ) env st:=de ⟨n,⟨_,_,_,h,h0,h1⟩,Nat.lt_succ_self n⟩
theorem Jn4(A:α0→α1→α2→α3→Env)(S:α0→α1→α2→α3→List AO){K:α0→α1→α2→α3→β}{F:(α0→α1→α2→α3→β)→β}(h:letk K F=z)(h1:∀k:α0→α1→α2→α3→β,F k=z→WC P e x (.lp (λu v=>∃x0 x1 x2 x3,k x0 x1 x2 x3=z∧Sub (A x0 x1 x2 x3) u∧SLe v (S x0 x1 x2 x3)) κ) env st)(h2:∀x0 x1 x2 x3,K x0 x1 x2 x3=z→WC P e y κ (A x0 x1 x2 x3) (S x0 x1 x2 x3)):WC P e (.seq x y) κ env st:=by
 refine cT _ (h1 K h) ?_
 rintro u v ⟨x0,x1,x2,x3,h,hs,hw⟩
 exact WC.sub hs (WC.weak hw (h2 x0 x1 x2 x3 h))
theorem Ln4(A:α0→α1→α2→α3→Env)(S:α0→α1→α2→α3→List AO)(L:Nat→α0→α1→α2→α3→β){N:Nat}{i0:α0}{i1:α1}{i2:α2}{i3:α3}(h:L N i0 i1 i2 i3=z)(hz:∀x0 x1 x2 x3,L 0 x0 x1 x2 x3=z→False)(hs':∀n x0 x1 x2 x3,L (n+1) x0 x1 x2 x3=z→WC P e x (.lp (λu v=>∃y,(∃x0 x1 x2 x3,L y x0 x1 x2 x3=z∧Sub (A x0 x1 x2 x3) u∧SLe v (S x0 x1 x2 x3))∧y<n+1) κ) (A x0 x1 x2 x3) (S x0 x1 x2 x3))(h0:Sub (A i0 i1 i2 i3) env:=by exact Sb)(h1:SLe st (S i0 i1 i2 i3):=by exact Tv):WC P e (.loop x) κ env st:=by
 refine cL (λn u v=>∃x0 x1 x2 x3,L n x0 x1 x2 x3=z∧Sub (A x0 x1 x2 x3) u∧SLe v (S x0 x1 x2 x3)) (λn=>n) N ⟨_,_,_,_,h,h0,h1⟩ ?_
 rintro n u v ⟨x0,x1,x2,x3,h,hs,hw⟩
 rcases n with _|n
 ·exact(hz x0 x1 x2 x3 h).elim
 ·exact WC.sub hs (WC.weak hw (hs' n x0 x1 x2 x3 h))
theorem En4{A:α0→α1→α2→α3→Env}{S:α0→α1→α2→α3→List AO}{k:α0→α1→α2→α3→β}{i0:α0}{i1:α1}{i2:α2}{i3:α3}(h:k i0 i1 i2 i3=z)(h0:Sub (A i0 i1 i2 i3) env:=by exact Sb)(h1:SLe st (S i0 i1 i2 i3):=by exact Tv):WE P e .normal (.lp (λu v=>∃x0 x1 x2 x3,k x0 x1 x2 x3=z∧Sub (A x0 x1 x2 x3) u∧SLe v (S x0 x1 x2 x3)) κ) env st:=de ⟨_,_,_,_,h,h0,h1⟩
theorem Fn4{A:α0→α1→α2→α3→Env}{S:α0→α1→α2→α3→List AO}{L:Nat→α0→α1→α2→α3→β}{i0:α0}{i1:α1}{i2:α2}{i3:α3}(h:L n i0 i1 i2 i3=z)(h0:Sub (A i0 i1 i2 i3) env:=by exact Sb)(h1:SLe st (S i0 i1 i2 i3):=by exact Tv):WE P e .normal (.lp (λu v=>∃y,(∃x0 x1 x2 x3,L y x0 x1 x2 x3=z∧Sub (A x0 x1 x2 x3) u∧SLe v (S x0 x1 x2 x3))∧y<n+1) κ) env st:=de ⟨n,⟨_,_,_,_,h,h0,h1⟩,Nat.lt_succ_self n⟩
theorem Jn5(A:α0→α1→α2→α3→α4→Env)(S:α0→α1→α2→α3→α4→List AO){K:α0→α1→α2→α3→α4→β}{F:(α0→α1→α2→α3→α4→β)→β}(h:letk K F=z)(h1:∀k:α0→α1→α2→α3→α4→β,F k=z→WC P e x (.lp (λu v=>∃x0 x1 x2 x3 x4,k x0 x1 x2 x3 x4=z∧Sub (A x0 x1 x2 x3 x4) u∧SLe v (S x0 x1 x2 x3 x4)) κ) env st)(h2:∀x0 x1 x2 x3 x4,K x0 x1 x2 x3 x4=z→WC P e y κ (A x0 x1 x2 x3 x4) (S x0 x1 x2 x3 x4)):WC P e (.seq x y) κ env st:=by
 refine cT _ (h1 K h) ?_
 rintro u v ⟨x0,x1,x2,x3,x4,h,hs,hw⟩
 exact WC.sub hs (WC.weak hw (h2 x0 x1 x2 x3 x4 h))
theorem Ln5(A:α0→α1→α2→α3→α4→Env)(S:α0→α1→α2→α3→α4→List AO)(L:Nat→α0→α1→α2→α3→α4→β){N:Nat}{i0:α0}{i1:α1}{i2:α2}{i3:α3}{i4:α4}(h:L N i0 i1 i2 i3 i4=z)(hz:∀x0 x1 x2 x3 x4,L 0 x0 x1 x2 x3 x4=z→False)(hs':∀n x0 x1 x2 x3 x4,L (n+1) x0 x1 x2 x3 x4=z→WC P e x (.lp (λu v=>∃y,(∃x0 x1 x2 x3 x4,L y x0 x1 x2 x3 x4=z∧Sub (A x0 x1 x2 x3 x4) u∧SLe v (S x0 x1 x2 x3 x4))∧y<n+1) κ) (A x0 x1 x2 x3 x4) (S x0 x1 x2 x3 x4))(h0:Sub (A i0 i1 i2 i3 i4) env:=by exact Sb)(h1:SLe st (S i0 i1 i2 i3 i4):=by exact Tv):WC P e (.loop x) κ env st:=by
 refine cL (λn u v=>∃x0 x1 x2 x3 x4,L n x0 x1 x2 x3 x4=z∧Sub (A x0 x1 x2 x3 x4) u∧SLe v (S x0 x1 x2 x3 x4)) (λn=>n) N ⟨_,_,_,_,_,h,h0,h1⟩ ?_
 rintro n u v ⟨x0,x1,x2,x3,x4,h,hs,hw⟩
 rcases n with _|n
 ·exact(hz x0 x1 x2 x3 x4 h).elim
 ·exact WC.sub hs (WC.weak hw (hs' n x0 x1 x2 x3 x4 h))
theorem En5{A:α0→α1→α2→α3→α4→Env}{S:α0→α1→α2→α3→α4→List AO}{k:α0→α1→α2→α3→α4→β}{i0:α0}{i1:α1}{i2:α2}{i3:α3}{i4:α4}(h:k i0 i1 i2 i3 i4=z)(h0:Sub (A i0 i1 i2 i3 i4) env:=by exact Sb)(h1:SLe st (S i0 i1 i2 i3 i4):=by exact Tv):WE P e .normal (.lp (λu v=>∃x0 x1 x2 x3 x4,k x0 x1 x2 x3 x4=z∧Sub (A x0 x1 x2 x3 x4) u∧SLe v (S x0 x1 x2 x3 x4)) κ) env st:=de ⟨_,_,_,_,_,h,h0,h1⟩
theorem Fn5{A:α0→α1→α2→α3→α4→Env}{S:α0→α1→α2→α3→α4→List AO}{L:Nat→α0→α1→α2→α3→α4→β}{i0:α0}{i1:α1}{i2:α2}{i3:α3}{i4:α4}(h:L n i0 i1 i2 i3 i4=z)(h0:Sub (A i0 i1 i2 i3 i4) env:=by exact Sb)(h1:SLe st (S i0 i1 i2 i3 i4):=by exact Tv):WE P e .normal (.lp (λu v=>∃y,(∃x0 x1 x2 x3 x4,L y x0 x1 x2 x3 x4=z∧Sub (A x0 x1 x2 x3 x4) u∧SLe v (S x0 x1 x2 x3 x4))∧y<n+1) κ) env st:=de ⟨n,⟨_,_,_,_,_,h,h0,h1⟩,Nat.lt_succ_self n⟩
theorem Jn6(A:α0→α1→α2→α3→α4→α5→Env)(S:α0→α1→α2→α3→α4→α5→List AO){K:α0→α1→α2→α3→α4→α5→β}{F:(α0→α1→α2→α3→α4→α5→β)→β}(h:letk K F=z)(h1:∀k:α0→α1→α2→α3→α4→α5→β,F k=z→WC P e x (.lp (λu v=>∃x0 x1 x2 x3 x4 x5,k x0 x1 x2 x3 x4 x5=z∧Sub (A x0 x1 x2 x3 x4 x5) u∧SLe v (S x0 x1 x2 x3 x4 x5)) κ) env st)(h2:∀x0 x1 x2 x3 x4 x5,K x0 x1 x2 x3 x4 x5=z→WC P e y κ (A x0 x1 x2 x3 x4 x5) (S x0 x1 x2 x3 x4 x5)):WC P e (.seq x y) κ env st:=by
 refine cT _ (h1 K h) ?_
 rintro u v ⟨x0,x1,x2,x3,x4,x5,h,hs,hw⟩
 exact WC.sub hs (WC.weak hw (h2 x0 x1 x2 x3 x4 x5 h))
theorem Ln6(A:α0→α1→α2→α3→α4→α5→Env)(S:α0→α1→α2→α3→α4→α5→List AO)(L:Nat→α0→α1→α2→α3→α4→α5→β){N:Nat}{i0:α0}{i1:α1}{i2:α2}{i3:α3}{i4:α4}{i5:α5}(h:L N i0 i1 i2 i3 i4 i5=z)(hz:∀x0 x1 x2 x3 x4 x5,L 0 x0 x1 x2 x3 x4 x5=z→False)(hs':∀n x0 x1 x2 x3 x4 x5,L (n+1) x0 x1 x2 x3 x4 x5=z→WC P e x (.lp (λu v=>∃y,(∃x0 x1 x2 x3 x4 x5,L y x0 x1 x2 x3 x4 x5=z∧Sub (A x0 x1 x2 x3 x4 x5) u∧SLe v (S x0 x1 x2 x3 x4 x5))∧y<n+1) κ) (A x0 x1 x2 x3 x4 x5) (S x0 x1 x2 x3 x4 x5))(h0:Sub (A i0 i1 i2 i3 i4 i5) env:=by exact Sb)(h1:SLe st (S i0 i1 i2 i3 i4 i5):=by exact Tv):WC P e (.loop x) κ env st:=by
 refine cL (λn u v=>∃x0 x1 x2 x3 x4 x5,L n x0 x1 x2 x3 x4 x5=z∧Sub (A x0 x1 x2 x3 x4 x5) u∧SLe v (S x0 x1 x2 x3 x4 x5)) (λn=>n) N ⟨_,_,_,_,_,_,h,h0,h1⟩ ?_
 rintro n u v ⟨x0,x1,x2,x3,x4,x5,h,hs,hw⟩
 rcases n with _|n
 ·exact(hz x0 x1 x2 x3 x4 x5 h).elim
 ·exact WC.sub hs (WC.weak hw (hs' n x0 x1 x2 x3 x4 x5 h))
theorem En6{A:α0→α1→α2→α3→α4→α5→Env}{S:α0→α1→α2→α3→α4→α5→List AO}{k:α0→α1→α2→α3→α4→α5→β}{i0:α0}{i1:α1}{i2:α2}{i3:α3}{i4:α4}{i5:α5}(h:k i0 i1 i2 i3 i4 i5=z)(h0:Sub (A i0 i1 i2 i3 i4 i5) env:=by exact Sb)(h1:SLe st (S i0 i1 i2 i3 i4 i5):=by exact Tv):WE P e .normal (.lp (λu v=>∃x0 x1 x2 x3 x4 x5,k x0 x1 x2 x3 x4 x5=z∧Sub (A x0 x1 x2 x3 x4 x5) u∧SLe v (S x0 x1 x2 x3 x4 x5)) κ) env st:=de ⟨_,_,_,_,_,_,h,h0,h1⟩
theorem Fn6{A:α0→α1→α2→α3→α4→α5→Env}{S:α0→α1→α2→α3→α4→α5→List AO}{L:Nat→α0→α1→α2→α3→α4→α5→β}{i0:α0}{i1:α1}{i2:α2}{i3:α3}{i4:α4}{i5:α5}(h:L n i0 i1 i2 i3 i4 i5=z)(h0:Sub (A i0 i1 i2 i3 i4 i5) env:=by exact Sb)(h1:SLe st (S i0 i1 i2 i3 i4 i5):=by exact Tv):WE P e .normal (.lp (λu v=>∃y,(∃x0 x1 x2 x3 x4 x5,L y x0 x1 x2 x3 x4 x5=z∧Sub (A x0 x1 x2 x3 x4 x5) u∧SLe v (S x0 x1 x2 x3 x4 x5))∧y<n+1) κ) env st:=de ⟨n,⟨_,_,_,_,_,_,h,h0,h1⟩,Nat.lt_succ_self n⟩
theorem Jn7(A:α0→α1→α2→α3→α4→α5→α6→Env)(S:α0→α1→α2→α3→α4→α5→α6→List AO){K:α0→α1→α2→α3→α4→α5→α6→β}{F:(α0→α1→α2→α3→α4→α5→α6→β)→β}(h:letk K F=z)(h1:∀k:α0→α1→α2→α3→α4→α5→α6→β,F k=z→WC P e x (.lp (λu v=>∃x0 x1 x2 x3 x4 x5 x6,k x0 x1 x2 x3 x4 x5 x6=z∧Sub (A x0 x1 x2 x3 x4 x5 x6) u∧SLe v (S x0 x1 x2 x3 x4 x5 x6)) κ) env st)(h2:∀x0 x1 x2 x3 x4 x5 x6,K x0 x1 x2 x3 x4 x5 x6=z→WC P e y κ (A x0 x1 x2 x3 x4 x5 x6) (S x0 x1 x2 x3 x4 x5 x6)):WC P e (.seq x y) κ env st:=by
 refine cT _ (h1 K h) ?_
 rintro u v ⟨x0,x1,x2,x3,x4,x5,x6,h,hs,hw⟩
 exact WC.sub hs (WC.weak hw (h2 x0 x1 x2 x3 x4 x5 x6 h))
theorem Ln7(A:α0→α1→α2→α3→α4→α5→α6→Env)(S:α0→α1→α2→α3→α4→α5→α6→List AO)(L:Nat→α0→α1→α2→α3→α4→α5→α6→β){N:Nat}{i0:α0}{i1:α1}{i2:α2}{i3:α3}{i4:α4}{i5:α5}{i6:α6}(h:L N i0 i1 i2 i3 i4 i5 i6=z)(hz:∀x0 x1 x2 x3 x4 x5 x6,L 0 x0 x1 x2 x3 x4 x5 x6=z→False)(hs':∀n x0 x1 x2 x3 x4 x5 x6,L (n+1) x0 x1 x2 x3 x4 x5 x6=z→WC P e x (.lp (λu v=>∃y,(∃x0 x1 x2 x3 x4 x5 x6,L y x0 x1 x2 x3 x4 x5 x6=z∧Sub (A x0 x1 x2 x3 x4 x5 x6) u∧SLe v (S x0 x1 x2 x3 x4 x5 x6))∧y<n+1) κ) (A x0 x1 x2 x3 x4 x5 x6) (S x0 x1 x2 x3 x4 x5 x6))(h0:Sub (A i0 i1 i2 i3 i4 i5 i6) env:=by exact Sb)(h1:SLe st (S i0 i1 i2 i3 i4 i5 i6):=by exact Tv):WC P e (.loop x) κ env st:=by
 refine cL (λn u v=>∃x0 x1 x2 x3 x4 x5 x6,L n x0 x1 x2 x3 x4 x5 x6=z∧Sub (A x0 x1 x2 x3 x4 x5 x6) u∧SLe v (S x0 x1 x2 x3 x4 x5 x6)) (λn=>n) N ⟨_,_,_,_,_,_,_,h,h0,h1⟩ ?_
 rintro n u v ⟨x0,x1,x2,x3,x4,x5,x6,h,hs,hw⟩
 rcases n with _|n
 ·exact(hz x0 x1 x2 x3 x4 x5 x6 h).elim
 ·exact WC.sub hs (WC.weak hw (hs' n x0 x1 x2 x3 x4 x5 x6 h))
theorem Fn7{A:α0→α1→α2→α3→α4→α5→α6→Env}{S:α0→α1→α2→α3→α4→α5→α6→List AO}{L:Nat→α0→α1→α2→α3→α4→α5→α6→β}{i0:α0}{i1:α1}{i2:α2}{i3:α3}{i4:α4}{i5:α5}{i6:α6}(h:L n i0 i1 i2 i3 i4 i5 i6=z)(h0:Sub (A i0 i1 i2 i3 i4 i5 i6) env:=by exact Sb)(h1:SLe st (S i0 i1 i2 i3 i4 i5 i6):=by exact Tv):WE P e .normal (.lp (λu v=>∃y,(∃x0 x1 x2 x3 x4 x5 x6,L y x0 x1 x2 x3 x4 x5 x6=z∧Sub (A x0 x1 x2 x3 x4 x5 x6) u∧SLe v (S x0 x1 x2 x3 x4 x5 x6))∧y<n+1) κ) env st:=de ⟨n,⟨_,_,_,_,_,_,_,h,h0,h1⟩,Nat.lt_succ_self n⟩
theorem Jn8(A:α0→α1→α2→α3→α4→α5→α6→α7→Env)(S:α0→α1→α2→α3→α4→α5→α6→α7→List AO){K:α0→α1→α2→α3→α4→α5→α6→α7→β}{F:(α0→α1→α2→α3→α4→α5→α6→α7→β)→β}(h:letk K F=z)(h1:∀k:α0→α1→α2→α3→α4→α5→α6→α7→β,F k=z→WC P e x (.lp (λu v=>∃x0 x1 x2 x3 x4 x5 x6 x7,k x0 x1 x2 x3 x4 x5 x6 x7=z∧Sub (A x0 x1 x2 x3 x4 x5 x6 x7) u∧SLe v (S x0 x1 x2 x3 x4 x5 x6 x7)) κ) env st)(h2:∀x0 x1 x2 x3 x4 x5 x6 x7,K x0 x1 x2 x3 x4 x5 x6 x7=z→WC P e y κ (A x0 x1 x2 x3 x4 x5 x6 x7) (S x0 x1 x2 x3 x4 x5 x6 x7)):WC P e (.seq x y) κ env st:=by
 refine cT _ (h1 K h) ?_
 rintro u v ⟨x0,x1,x2,x3,x4,x5,x6,x7,h,hs,hw⟩
 exact WC.sub hs (WC.weak hw (h2 x0 x1 x2 x3 x4 x5 x6 x7 h))
theorem Ln8(A:α0→α1→α2→α3→α4→α5→α6→α7→Env)(S:α0→α1→α2→α3→α4→α5→α6→α7→List AO)(L:Nat→α0→α1→α2→α3→α4→α5→α6→α7→β){N:Nat}{i0:α0}{i1:α1}{i2:α2}{i3:α3}{i4:α4}{i5:α5}{i6:α6}{i7:α7}(h:L N i0 i1 i2 i3 i4 i5 i6 i7=z)(hz:∀x0 x1 x2 x3 x4 x5 x6 x7,L 0 x0 x1 x2 x3 x4 x5 x6 x7=z→False)(hs':∀n x0 x1 x2 x3 x4 x5 x6 x7,L (n+1) x0 x1 x2 x3 x4 x5 x6 x7=z→WC P e x (.lp (λu v=>∃y,(∃x0 x1 x2 x3 x4 x5 x6 x7,L y x0 x1 x2 x3 x4 x5 x6 x7=z∧Sub (A x0 x1 x2 x3 x4 x5 x6 x7) u∧SLe v (S x0 x1 x2 x3 x4 x5 x6 x7))∧y<n+1) κ) (A x0 x1 x2 x3 x4 x5 x6 x7) (S x0 x1 x2 x3 x4 x5 x6 x7))(h0:Sub (A i0 i1 i2 i3 i4 i5 i6 i7) env:=by exact Sb)(h1:SLe st (S i0 i1 i2 i3 i4 i5 i6 i7):=by exact Tv):WC P e (.loop x) κ env st:=by
 refine cL (λn u v=>∃x0 x1 x2 x3 x4 x5 x6 x7,L n x0 x1 x2 x3 x4 x5 x6 x7=z∧Sub (A x0 x1 x2 x3 x4 x5 x6 x7) u∧SLe v (S x0 x1 x2 x3 x4 x5 x6 x7)) (λn=>n) N ⟨_,_,_,_,_,_,_,_,h,h0,h1⟩ ?_
 rintro n u v ⟨x0,x1,x2,x3,x4,x5,x6,x7,h,hs,hw⟩
 rcases n with _|n
 ·exact(hz x0 x1 x2 x3 x4 x5 x6 x7 h).elim
 ·exact WC.sub hs (WC.weak hw (hs' n x0 x1 x2 x3 x4 x5 x6 x7 h))
theorem Jn10(A:α0→α1→α2→α3→α4→α5→α6→α7→α8→α9→Env)(S:α0→α1→α2→α3→α4→α5→α6→α7→α8→α9→List AO){K:α0→α1→α2→α3→α4→α5→α6→α7→α8→α9→β}{F:(α0→α1→α2→α3→α4→α5→α6→α7→α8→α9→β)→β}(h:letk K F=z)(h1:∀k:α0→α1→α2→α3→α4→α5→α6→α7→α8→α9→β,F k=z→WC P e x (.lp (λu v=>∃x0 x1 x2 x3 x4 x5 x6 x7 x8 x9,k x0 x1 x2 x3 x4 x5 x6 x7 x8 x9=z∧Sub (A x0 x1 x2 x3 x4 x5 x6 x7 x8 x9) u∧SLe v (S x0 x1 x2 x3 x4 x5 x6 x7 x8 x9)) κ) env st)(h2:∀x0 x1 x2 x3 x4 x5 x6 x7 x8 x9,K x0 x1 x2 x3 x4 x5 x6 x7 x8 x9=z→WC P e y κ (A x0 x1 x2 x3 x4 x5 x6 x7 x8 x9) (S x0 x1 x2 x3 x4 x5 x6 x7 x8 x9)):WC P e (.seq x y) κ env st:=by
 refine cT _ (h1 K h) ?_
 rintro u v ⟨x0,x1,x2,x3,x4,x5,x6,x7,x8,x9,h,hs,hw⟩
 exact WC.sub hs (WC.weak hw (h2 x0 x1 x2 x3 x4 x5 x6 x7 x8 x9 h))
theorem Jn13(A:α0→α1→α2→α3→α4→α5→α6→α7→α8→α9→α10→α11→α12→Env)(S:α0→α1→α2→α3→α4→α5→α6→α7→α8→α9→α10→α11→α12→List AO){K:α0→α1→α2→α3→α4→α5→α6→α7→α8→α9→α10→α11→α12→β}{F:(α0→α1→α2→α3→α4→α5→α6→α7→α8→α9→α10→α11→α12→β)→β}(h:letk K F=z)(h1:∀k:α0→α1→α2→α3→α4→α5→α6→α7→α8→α9→α10→α11→α12→β,F k=z→WC P e x (.lp (λu v=>∃x0 x1 x2 x3 x4 x5 x6 x7 x8 x9 x10 x11 x12,k x0 x1 x2 x3 x4 x5 x6 x7 x8 x9 x10 x11 x12=z∧Sub (A x0 x1 x2 x3 x4 x5 x6 x7 x8 x9 x10 x11 x12) u∧SLe v (S x0 x1 x2 x3 x4 x5 x6 x7 x8 x9 x10 x11 x12)) κ) env st)(h2:∀x0 x1 x2 x3 x4 x5 x6 x7 x8 x9 x10 x11 x12,K x0 x1 x2 x3 x4 x5 x6 x7 x8 x9 x10 x11 x12=z→WC P e y κ (A x0 x1 x2 x3 x4 x5 x6 x7 x8 x9 x10 x11 x12) (S x0 x1 x2 x3 x4 x5 x6 x7 x8 x9 x10 x11 x12)):WC P e (.seq x y) κ env st:=by
 refine cT _ (h1 K h) ?_
 rintro u v ⟨x0,x1,x2,x3,x4,x5,x6,x7,x8,x9,x10,x11,x12,h,hs,hw⟩
 exact WC.sub hs (WC.weak hw (h2 x0 x1 x2 x3 x4 x5 x6 x7 x8 x9 x10 x11 x12 h))
theorem Ln14(A:α0→α1→α2→α3→α4→α5→α6→α7→α8→α9→α10→α11→α12→α13→Env)(S:α0→α1→α2→α3→α4→α5→α6→α7→α8→α9→α10→α11→α12→α13→List AO)(L:Nat→α0→α1→α2→α3→α4→α5→α6→α7→α8→α9→α10→α11→α12→α13→β){N:Nat}{i0:α0}{i1:α1}{i2:α2}{i3:α3}{i4:α4}{i5:α5}{i6:α6}{i7:α7}{i8:α8}{i9:α9}{i10:α10}{i11:α11}{i12:α12}{i13:α13}(h:L N i0 i1 i2 i3 i4 i5 i6 i7 i8 i9 i10 i11 i12 i13=z)(hz:∀x0 x1 x2 x3 x4 x5 x6 x7 x8 x9 x10 x11 x12 x13,L 0 x0 x1 x2 x3 x4 x5 x6 x7 x8 x9 x10 x11 x12 x13=z→False)(hs':∀n x0 x1 x2 x3 x4 x5 x6 x7 x8 x9 x10 x11 x12 x13,L (n+1) x0 x1 x2 x3 x4 x5 x6 x7 x8 x9 x10 x11 x12 x13=z→WC P e x (.lp (λu v=>∃y,(∃x0 x1 x2 x3 x4 x5 x6 x7 x8 x9 x10 x11 x12 x13,L y x0 x1 x2 x3 x4 x5 x6 x7 x8 x9 x10 x11 x12 x13=z∧Sub (A x0 x1 x2 x3 x4 x5 x6 x7 x8 x9 x10 x11 x12 x13) u∧SLe v (S x0 x1 x2 x3 x4 x5 x6 x7 x8 x9 x10 x11 x12 x13))∧y<n+1) κ) (A x0 x1 x2 x3 x4 x5 x6 x7 x8 x9 x10 x11 x12 x13) (S x0 x1 x2 x3 x4 x5 x6 x7 x8 x9 x10 x11 x12 x13))(h0:Sub (A i0 i1 i2 i3 i4 i5 i6 i7 i8 i9 i10 i11 i12 i13) env:=by exact Sb)(h1:SLe st (S i0 i1 i2 i3 i4 i5 i6 i7 i8 i9 i10 i11 i12 i13):=by exact Tv):WC P e (.loop x) κ env st:=by
 refine cL (λn u v=>∃x0 x1 x2 x3 x4 x5 x6 x7 x8 x9 x10 x11 x12 x13,L n x0 x1 x2 x3 x4 x5 x6 x7 x8 x9 x10 x11 x12 x13=z∧Sub (A x0 x1 x2 x3 x4 x5 x6 x7 x8 x9 x10 x11 x12 x13) u∧SLe v (S x0 x1 x2 x3 x4 x5 x6 x7 x8 x9 x10 x11 x12 x13)) (λn=>n) N ⟨_,_,_,_,_,_,_,_,_,_,_,_,_,_,h,h0,h1⟩ ?_
 rintro n u v ⟨x0,x1,x2,x3,x4,x5,x6,x7,x8,x9,x10,x11,x12,x13,h,hs,hw⟩
 rcases n with _|n
 ·exact(hz x0 x1 x2 x3 x4 x5 x6 x7 x8 x9 x10 x11 x12 x13 h).elim
 ·exact WC.sub hs (WC.weak hw (hs' n x0 x1 x2 x3 x4 x5 x6 x7 x8 x9 x10 x11 x12 x13 h))
end
theorem RO{id:Nat}{l:List Oper}(rs:List AV)(tc:List (List Nat))(es:List Nat)(L:List (List AO))(plan:List (List Nat×List Nat×List Nat))(hm:P.follows .mixedOrders=true)(hok:lw l tc es plan=true)(hrs:Nat.beq rs.length l.length=true)(hes:es.all (λy=>Nat.blt y l.length)=true)
  (hobs:Obs P e l rs env (λc=>List.getD (st::L) c []) es 0 l plan)(h:WE P e .normal κ (FL env (λk=>Nat.blt k l.length) (cP l rs 0)) (List.getD (st::L) es.length []))(hnf:cQ l=true:=by kernel_rfl):WC P e (.region id l.toArray true) κ env st:=lX rs tc es _ plan hm hok hrs hes rfl hobs h hnf
def wb(x:Nat):List Nat→List Nat
 |[]=> [x]
 |y::l=>bif Nat.beq x y then y::l else y::wb x l
def tcF(l:List Oper):List (List Nat):=l.foldl (λacc o=>acc++ [o.after.toList.foldl (λr e=>bif Region.binds .any e then(acc.getD e.on []).foldl (λr x=>wb x r) (wb e.on r) else r) []]) []
theorem RT{id:Nat}{l:List Oper}(rs:List AV)(es:List Nat)(L:List (List AO))(plan:List (List Nat×List Nat×List Nat))(hm:P.follows .mixedOrders=true)(hok:lw l (tcF l) es plan=true)(hrs:Nat.beq rs.length l.length=true)(hes:es.all (λy=>Nat.blt y l.length)=true)
  (hobs:Obs P e l rs env (λc=>List.getD (st::L) c []) es 0 l plan)(h:WE P e .normal κ (FL env (λk=>Nat.blt k l.length) (cP l rs 0)) (List.getD (st::L) es.length []))(hnf:cQ l=true:=by kernel_rfl):WC P e (.region id l.toArray true) κ env st:=RO rs (tcF l) es L plan hm hok hrs hes hobs h hnf
theorem O1 [T:Tys P]{l:List Oper}{rs:List AV}{base:Env}{sts:Nat→List AO}{k d c:Nat}{o:Oper}{pk bk:List Nat}{up:Bool}{r:AV}(hd:o.dst=some d)(h:∀F:Env,ke T.t e.n l.toArray (sts c) (ju l rs base pk bk++F) o=some ((d,r)::(ju l rs base pk bk++F)))(hr:rs[k]? =some r)(hu:up=false):ObC P e l rs base sts k o pk bk up [c]:=
 ⟨λF=>jh T.h (h F) (lA hd hr (by rw[hu];rfl)),trivial⟩
theorem O2 [T:Tys P]{l:List Oper}{rs:List AV}{base:Env}{sts:Nat→List AO}{k d c c':Nat}{o:Oper}{pk bk:List Nat}{r:AV}(hd:o.dst=some d)(h:∀F:Env,ke T.t e.n l.toArray (sts c) (ju l rs base pk bk++F) o=some ((d,r)::(ju l rs base pk bk++F)))(hr:rs[k]? =some r)(hu:c'=c):Ob P e l rs base sts k o pk bk c c':=
 λF=>jh T.h (h F) (lA hd hr (by rw[hu]))
def uC{α:Type}:List α→Option (List α)
 |[]=>some []
 |a::l=>match uC l with
  |some l'=>some (a::l')
  |none=>none
theorem qK{α:Type}:∀{l l':List α},uC l=some l'→l=l'
 |[],l',h=>inS h
 |a::l,l',h=>by
  dsimp only[uC] at h
  split at h
  ·rename_i hl;rw[qK hl];exact inS h
  ·cases h
def vY:AO→Option AO
 | .row T cs=>match uC cs with
  |some c=>some (.row T c)
  |none=>none
 |o=>some o
theorem uB{o o':AO}(h:vY o=some o'):o=o':=by
 cases o with
 |row T cs=>
  dsimp only[vY] at h
  split at h
  ·rename_i hl;rw[qK hl];exact inS h
  ·cases h
 |_=>exact inS h
def uA:List AO→Option (List AO)
 |[]=>some []
 |a::l=>match vY a,uA l with
  |some a',some l'=>some (a'::l')
  |_,_=>none
theorem qJ:∀{l l':List AO},uA l=some l'→l=l'
 |[],l',h=>inS h
 |a::l,l',h=>by
  dsimp only[uA] at h
  split at h
  ·rename_i ha hl;rw[uB ha,qJ hl];exact inS h
  ·cases h
theorem St{st':List AO}(h:uA st=some st')(k:WL P e ops rest env st' R):WL P e ops rest env st R:=WL.st (qJ h) k
end
end Go.Sk
namespace Go.Sk
open Go.RowKit (Below)
section
variable{P:Program}{e:En}{l:List Oper}{rs:List AV}{base:Env}{sts:List Bool→List AO→Prop}{es:List Nat}
end
end Go.Sk
namespace Go.Sk
open Go.RowKit (Below)
section
variable{P:Program}{env:Env}{st:List AO}{dst:Option Tmp}{ty:TypeId}{pos:String}{after:Array Edge}{guard:Option (Nat×Bool)}
end
end Go.Sk
namespace Go.Sk
open Go.RowKit (Below)
section
variable{P:Program}{t:Ty}{env:Env}{st:List AO}{dst:Option Tmp}{ty:TypeId}{pos:String}{after:Array Edge}{guard:Option (Nat×Bool)}
theorem dB{T len n:Nat}{bb:Bool}{x ix:Operand}{id ver off Te k:Nat}{es:List (List AV)}{kk:IntKind}{i:Int}(hT:fS P T=some (len,n,bb))(hx:opv env x=some (.pe id ver off))(hs0:st[id]? =some (.os Te k ver es))(hi:opv env ix=some (.d (.v (.int kk i))))
  (h0:0≤i)(h1:i<len):Yields P env st ⟨dst, .indexAddr T x ix,ty,pos,after,guard⟩ (.pe id ver (off+i.toNat*n)):=λm φ a w hs he=>by
 have hra:=bi he hx
 simp only[RA] at hra
 obtain⟨ver0,y0,g1,g2,g3⟩:=hra
 obtain⟨y,xs,e1,_⟩:=hs.obj id _ _ hs0 g1
 simp only[Cz.tok.injEq] at e1
 obtain⟨rfl,rfl⟩:=e1
 obtain⟨b,len',cap,rfl,hv⟩:=g3 rfl
 exact⟨.pointer (some ⟨b,off+i.toNat*n,none⟩),by simp only[RA];exact⟨_,_,g1,Nat.le_refl _,λ_=>⟨b,_,_,rfl,rfl⟩⟩,λw' _=>by simp[execOp,hv,bh he hi,dE hT h0 h1]⟩
end
end Go.Sk
namespace Go.Sk
open Go.RowKit (Below)
theorem uy{st:List AO}{id ver T k:Nat}{es:List (List AV)}(h:st[id]? =some (.os T k ver es)):([AV.os id ver].all λx=>x.okS st&&Nat.beq x.cells.length 1)=true:=by simp[AV.okS,h,AV.cells]
theorem qr{m φ w}{x:D}{v:Value}(h:D.gnd x=some v):RA m φ w (.d x) v:=by simp only[RA];exact qd h
section
variable{P:Program}{e:En}{ops:Array Oper}{l rest:List Oper}{K:Ko}{env:Env}{st:List AO}{R:Env→List AO→Prop}{dst:Option Tmp}{ty:TypeId}{pos:String}{after:Array Edge}{guard:Option (Nat×Bool)}
theorem jY{κ α:Type}[DecidableEq κ]{T kt et:TypeId}{x ki:Operand}{id:Nat}(kf:κ→Value)(g:α→AV)(L:List (κ×α)){k:κ}{z:α}{zv:Value}{ka:AV}{vs:List Value}{r:AV}{b:Bool}(hT:P.underlying T=some (.map kt et))(hK:KeyS P kt kf)
  (hx:opv env x=some (.mp id))(hi:st[id]? =some (mpO kf g L))(hk:opv env ki=some ka)(hl:Le ka (.d (.ag (vs.map D.v))))(hkf:kf k= .agg ⟨vs⟩)(hz:(P.info? et).bind (·.zero)=some zv)(hgz:∀m φ w,RA m φ w (g z) zv)(hr:g ((bH L k).getD z)=r)(hb:(bH L k).isSome=b):
  Yields P env st ⟨dst, .lookup T x ki true,ty,pos,after,guard⟩ (.tu [r, .d (.v (.bool b))]):=λm φ a w hs he=>by
 subst hr;subst hb
 obtain⟨b,h1,h2⟩:=gf he hx
 obtain⟨b',hbb,h0,l,cl,g1,g2,g3,g4⟩:=hs.obj id _ _ hi h1
 simp only[Cz.blk.injEq] at hbb
 subst hbb
 have hkeys:l.map (·.key)=L.map (λp=>kf p.1):=by rw[g2];simp
 have hkv:=(kD he hk hl).trans hkf.symm
 have hlt:=ct g1
 have tu:∀{x:AV}{v:Value}{c:Bool},RA m φ w x v→RA m φ w (.tu [x, .d (.v (.bool c))]) (.tuple #[v, .bool c]):=λh=>by
  simp only[RA];exact⟨_,rfl,aQ h (aQ RAv bV)⟩
 cases hinf:P.info? et with
 |none=>simp[hinf] at hz
 |some i=>
  simp only[hinf,bnS] at hz
  rcases eA hK k L l 0 hkeys with⟨q1,q2,_⟩|⟨j,e,y,q1,q2,q3,q4,q5,_⟩
  ·refine⟨.tuple #[zv, .bool false],by rw[q1,Option.getD_none];exact tu (hgz m φ w),λw' hb=>?_⟩
   have g1':w'.heap[b]? =some (.map ⟨l⟩ cl):=by rw[hb.block b hlt];exact g1
   have hfk:=run_findKey_eq (P:=P) w' hK.wide (kf k) l
   rw[q2 w'] at hfk
   simp[execOp,Instr.lookup,h2,hkv,run_underlying hT,MapKept.run_getObj_map g1',hK.chk,hfk,zeroValue,typeInfo,hinf,hz,Result.andThen]
  ·have hval:RA m φ w (g y) e.val:=by
    have:(((L.map λp=>(kf p.1,g p.2)).map (·.2)))[j]? =some (g y):=by simp[q2]
    obtain⟨v',hv1,hv2⟩:=cS g3 this
    simp only[List.getElem?_map,q1,Option.map_some,au] at hv1
    rw[hv1];exact hv2
   refine⟨.tuple #[e.val, .bool true],by rw[q3,Option.getD_some];exact tu hval,λw' hb=>?_⟩
   have g1':w'.heap[b]? =some (.map ⟨l⟩ cl):=by rw[hb.block b hlt];exact g1
   have hfk:=run_findKey_eq (P:=P) w' hK.wide (kf k) l
   rw[q5 w'] at hfk
   simp[execOp,Instr.lookup,h2,hkv,run_underlying hT,MapKept.run_getObj_map g1',hK.chk,hfk,Result.andThen]
theorem ln{κ α:Type}[DecidableEq κ]{T kt et:TypeId}{o:Oper}{x ki v:Operand}{id:Nat}(kf:κ→Value)(g:α→AV)(L:List (κ×α)){k:κ}{u:α}{ka:AV}{vs:List Value}(ho:(o=⟨dst, .insert T x ki v,ty,pos,after,guard⟩)∨(o=⟨dst, .mapUpdate T x ki v,ty,pos,after,guard⟩))(hT:P.underlying T=some (.map kt et))(hK:KeyS P kt kf)
  (hx:opv env x=some (.mp id))(hi:st[id]? =some (mpO kf g L))(hk:opv env ki=some ka)(hl:Le ka (.d (.ag (vs.map D.v))))(hkf:kf k= .agg ⟨vs⟩){r0:AV}(hv:opv env v=some r0)(hlv:Le r0 (g u)):
  fk P env st o (.d (.v undef)) (st.set id (mpO kf g (bI L k u))):=λm φ a w hs he=>by
 obtain⟨b,h1,h2⟩:=gf he hx
 obtain⟨b',hbb,h0,l,cl,g1,g2,g3,g4⟩:=hs.obj id _ _ hi h1
 simp only[Cz.blk.injEq] at hbb
 subst hbb
 have hkeys:l.map (·.key)=L.map (λp=>kf p.1):=by rw[g2];simp
 obtain⟨l',clock',r1,r2,r3,r4⟩:=gA (P:=P) (k:=k) (u:=a.eval v) (w:=w) hT hK g1 hkeys u
 have hru:=hlv m φ w _ (bi he hv)
 have hvals:RAs m φ w (((bI L k u).map λp=>(kf p.1,g p.2)).map (·.2)) (l'.map (·.val)):=by
  rw[List.map_map] at g3⊢
  rcases r3 with⟨e1,e2⟩|⟨j,e1,e2⟩
  ·rw[e1,e2,List.map_append];exact aH g3 (aQ hru bV)
  ·rw[e1,e2,List.map_set];exact jB g3 hru
 obtain⟨k1,k2⟩:=p8 (clock':=clock') hs hi h1 (by rw[r2];simp) hvals (r4 g4)
 refine⟨undef,_,m,φ, .inr ⟨?_,rfl⟩,k1,k2,RAv⟩
 have hkv:=(kD he hk hl).trans hkf.symm
 rcases ho with rfl|rfl<;>simp[execOp,h2,hkv,r1]
theorem bm{T:TypeId}{x:Operand}{id off:Nat}{T':TypeId}{cs:List AV}{y:Value}{z:D}(hx:opv env x=some (.pt id off))(hs:st[id]? =some (.row T' cs))(hT:aV P T=some false)(hr:cs[off]? =some (.kv y z)):
  Yields P env st ⟨dst, .load T x,ty,pos,after,guard⟩ (.d z):=λm φ a w hsr he=>by
 obtain⟨v,h1,h2⟩:=pC (P:=P) (dst:=dst) (ty:=ty) (pos:=pos) (after:=after) (guard:=guard) hx hs hT hr m φ a w hsr he
 exact⟨v,Le.kv y z m φ w v h1,h2⟩
theorem fq{α:Type}{E:α→List D}{L:List (List α)}{M:List α}{v:α}{T:TypeId}{x:Operand}{fid j vf T' k:Nat}{i:Int}(hx:opv env x=some (.pem fid j vf (i.toNat*k)))(hi:st[fid]? =some (.fam T' k vf (bf E L)))(hj:L[j]? =some M)(hv:idx M i=some v)(hE:∀x,(E x).length=k)(hn:bF P T=some k)(hT:aV P T=some true):
  Yields P env st ⟨dst, .load T x,ty,pos,after,guard⟩ (.d (.ag (E v))):=λm φ a w hs he=>by
 obtain⟨ys,b,len,cap,xs,h1,h2,h3,h4,h5,h6,h7⟩:=oD hs (bi he hx) hi hj
 have hL:M[i.toNat]? =some v:=aU hv
 obtain⟨l1,l2,f1,f2,_⟩:=il (R:=E) hE hL
 have hve:(a9 E v).length=k:=by rw[a9,List.length_map,hE]
 have hxl:=aC h5
 have hcut:((M.map (a9 E)).flatten.drop (i.toNat*k)).take k=a9 E v:=by
  rw[f1,←f2,List.append_assoc,List.drop_left,List.take_append_of_le_length oM,List.take_of_length_le oM]
 have hcells:RAs m φ w (a9 E v) ((xs.drop (i.toNat*k)).take k):=by rw[←hcut];exact cJ _ (cK _ h5)
 have hlen2:=aC hcells
 refine⟨.agg ⟨(xs.drop (i.toNat*k)).take k⟩,?_,λw' hb=>?_⟩
 ·exact ak (xs:=a9 E v) (Les.refl _) m φ w _ (by simp only[RA];exact⟨_,rfl,hcells⟩)
 ·have hlt:=(h4.lt b rfl).2
  have:=dY (P:=P) (w:=w') (b:=b) (off:=i.toNat*k) (vs:=(xs.drop (i.toNat*k)).take k) hT hn oM (λj v hj=>by
   rw[bv (hb.block b hlt)]
   refine dw h4 ?_
   rw[List.getElem?_take] at hj
   split at hj
   ·simpa using hj
   ·simp at hj)
  simp[execOp,Instr.loadAt,Instr.sureAddr,h3,this]
theorem ft{T:TypeId}{x:Operand}{id ver off fo N n T' k:Nat}{α β:Type}{R:α→List D}{L:List α}{i:Int}{z:α}(E:β→List D)(F:Nat→β){q:Int}(hE:∀x,(E x).length=2)(hN:N=n*2)(hx:opv env x=some (.pe id ver (off+fo+q.toNat*2)))(hoff:off=i.toNat*k)(hs:st[id]? =some (.os T' k ver (L.map (a9 R))))(hT:aV P T=some true)(hn:bF P T=some 2)(hR:∀x,(R x).length=k)(hi:idx L i=some z)
  (hlen:Nat.ble (fo+N) k=true)(h:((a9 R z).drop fo).take N=bg N (λj=> .d (aO E F j)))(hg:bE n q=true):
  Yields P env st ⟨dst, .load T x,ty,pos,after,guard⟩ (.d (.ag (E (F q.toNat)))):=λm φ a w hsr he=>by
 have hle:=nbT hlen
 have h3:=(cU hg).2
 obtain⟨v,h1,h2⟩:=gH (P:=P) (dst:=dst) (ty:=ty) (pos:=pos) (after:=after) (guard:=guard) (fo:=fo+q.toNat*2) hx (by rw[hoff];omega) hs hT hn hR hi (tG hE hN h hg) (Nat.ble_eq_true_of_le oM) m φ a w hsr he
 exact⟨v,ak (Les.refl _) m φ w v h1,h2⟩
theorem nB{T:TypeId}{x y:Operand}{id ver off fo N n T' k:Nat}{α β:Type}{R:α→List D}{L:List α}{i:Int}{z:α}(E:β→List D)(F:Nat→β)(v:β)(z':α){q:Int}{r0:AV}(hE:∀x,(E x).length=2)(hN:N=n*2)(hx:opv env x=some (.pe id ver (off+fo+q.toNat*2)))(hoff:off=i.toNat*k)(hs:st[id]? =some (.os T' k ver (L.map (a9 R))))(hy:opv env y=some r0)(hle:Le r0 (.d (.ag (E v))))(hk1:((E v).map AV.d).all AV.ok1=true)
  (hn:bF P T=some 2)(hR:∀x,(R x).length=k)(hi:idx L i=some z)(hlen:Nat.ble (fo+N) k=true)(h:((a9 R z).drop fo).take N=bg N (λj=> .d (aO E F j)))(hg:bE n q=true)
  (hz':a9 R z'=(a9 R z).take fo++(bg N (λj=> .d (aO E (be F q.toNat v) j))++(a9 R z).drop (fo+N))):
  fk P env st ⟨dst, .store T x y,ty,pos,after,guard⟩ (.d (.v undef)) (st.set id (.os T' k ver ((L.set i.toNat z').map (a9 R)))):=by
 have hle2:=nbT hlen
 have h3:=(cU hg).2
 have hzl:(a9 R z).length=k:=by rw[a9,List.length_map,hR]
 exact dp (fo:=fo+q.toNat*2) (r:= .d (.ag (E v))) z' hx (by rw[hoff];omega) hs hy hle rfl rfl hk1 hn (by show((E v).map AV.d).length=2;rw[List.length_map,hE]) hR hi (Nat.ble_eq_true_of_le oM) (tF F hE hN (by rw[hzl];exact hlen) h hg v hz')
end
end Go.Sk
namespace Go.Sk
theorem dU{P:Program}{f:FuncId}{asz:List AV}{st:List AO}{Q Q':AV→List AO→Prop}(h:Ctr P f asz st Q)(hq:∀r st',Q r st'→Q' r st'):Ctr P f asz st Q':=
 ⟨h.1,λm φ w vs hs ha=>(h.2 m φ w vs hs ha).mono λen w' he=>by
  obtain⟨v,r,st',m',φ',h1,h2,h3⟩:=he
  exact⟨v,r,st',m',φ',h1,hq _ _ h2,h3⟩⟩
end Go.Sk
namespace Go.Sk
open Go.RowKit (Below)
section
variable{P:Program}{e:En}{ops:Array Oper}{l:List Oper}{env:Env}{st:List AO}{R:Env→List AO→Prop}{K:Ko}
end
section
variable{P:Program}{env:Env}{st:List AO}{dst:Option Tmp}{ty:TypeId}{pos:String}{after:Array Edge}{guard:Option (Nat×Bool)}
theorem bY{x:Operand}{id ver off Te k:Nat}{es:List (List AV)}(hx:opv env x=some (.pe id ver off))(hi:st[id]? =some (.os Te k ver es)):Yields P env st ⟨dst, .nilCheck x,ty,pos,after,guard⟩ (.pe id ver off):=λm φ a w hs he=>by
 obtain⟨p,h2⟩:=vX hs he hx hi
 refine⟨_,bi he hx,λw' _=>?_⟩
 simp[execOp,h2]
end
end Go.Sk
namespace Go.Sk
open Go.ChangeShapes Go.WideShapes Go.ChangeAt Go.RowKit
end Go.Sk
namespace Go.Sk
open Go.ChangeShapes Go.WideShapes Go.ChangeAt Go.RowKit
end Go.Sk
namespace Go.Sk
open Go.ChangeShapes Go.WideShapes Go.ChangeAt Go.RowKit
section
variable{H:Type}{enc:TypeId×Value→H}{P:Program}{W:World}{spare:Nat→Bool}{held:Bool}
end
end Go.Sk
namespace Go.Sk
open Go.RowKit (Below)
open Go.ChangeShapes Go.WideShapes Go.ChangeAt Go.RowKit
theorem pp{φ w}{α:Type}(f:α→Value):∀l:List α,RFs φ w (l.map λx=>D.v (f x)) (l.map f)
 |[]=>by simp[RFs]
 |x::l=>by
  simp only[List.map_cons,RFs]
  exact⟨f x,l.map f,rfl,by simp[RD],pp f l⟩
theorem pQ{P:Program}{w:World}{name:String}{g n f:Nat}{t e:TypeId}{k:IntKind}{cs:Array Value}{sp:Nat→Bool}{tab:List Int}{p:List MemPlace}(hu:P.underlying t=some (.array n e))(he:P.underlying e=some (.int k))(hce:P.cellsOf e=1)(hct:P.cellsOf t=n)
  (hg:P.globalNamed name=some g)(hv:w.var? P name=some cs)(hd:DataW.trod (λ_=>()) P w 0 sp false f t cs.toList=some (.agg (tab.map λn=> .lit (.int k n)),p)):RPs (bj w) w (tab.map (D.i k)) g 0:=by
 obtain⟨xs,m,rfl,hx,hlen,hn,hel⟩:=DataW.trod_array hu hd
 simp only[Prod.mk.injEq,DataW.agg.injEq] at hx
 have htl:tab.length=n:=by
  have:=congrArg List.length hx.1
  simp only[List.length_map] at this
  omega
 rw[hct] at hlen
 have hcell:∀i v,(tab.map (Value.int k))[i]? =some v→cs[i]? =some v:=λi v hi=>by
  rw[List.getElem?_map,Option.map_eq_some_iff] at hi
  obtain⟨z,hz,rfl⟩:=hi
  have hin:i<n:=by rw[←htl];exact(giS.1 hz).1
  have h1:=hel i hin
  have hxi:i<xs.length:=oM
  rw[geG hxi] at h1
  obtain⟨n',e1,e2,_⟩:=DataW.trod_int he h1
  rw[hce,Nat.mul_one] at e1
  have h2:(tab.map λn=>(DataW.lit (.int k n):DataW Unit))[i]? =some (xs[i]).1:=by rw[hx.1,List.getElem?_map,geG hxi];rfl
  rw[List.getElem?_map,hz,e2] at h2
  simp only[Option.map_some,au,DataW.lit.injEq,Lit.int.injEq,true_and] at h2
  subst h2
  have h3:cs.toList[i]? =some (.int k z):=by
   have h4:(cs.toList.drop i).take 1=[Value.int k z]:=e1
   have h5:((cs.toList.drop i).take 1)[0]? =some (Value.int k z):=by rw[h4];rfl
   rw[List.getElem?_take,if_pos oM,List.getElem?_drop] at h5
   simpa using h5
  simpa using h3
 have hall:bj w g=cs.size:=by
  have h:=hv
  simp only[World.var?,hg,bnS] at h
  unfold bj
  split at h
  ·rename_i c _ _ hh
   simp only[au] at h
   subst h
   rw[hh]
  ·cases h
 have hm:tab.map (D.i k)=tab.map λx=>D.v (Value.int k x):=rfl
 rw[hm]
 refine d9 (vs:=tab.map (Value.int k)) (pp _ _) (λj v hj=>?_)
 have h1:=hcell j v hj
 rw[Nat.zero_add,World.var?_cell hg hv,hall]
 exact⟨(Array.getElem?_eq_some_iff.1 h1).1,h1⟩
theorem np{H:Type}{enc:TypeId×Value→H}{C:Checked}{os:Os}{f:FuncId}{fn:Func}{s:ChangeSpec}{conds:List PathCond}{tb:TypeId}(n:Nat)(X:World→Prop)(hX:∀w w':World,w.heap=w'.heap→X w→X w')(own:ownKnob C.prog.godebug=none)(started:os.Started)(noInit:C.prog.inits.idxOf? f=none)(hfn:C.prog.funcs[f]? =some fn)
  (witness:∃(w:World)(tape:Tape)(i:Input),w.os=os∧(w.forCall tape i).Shaped C.prog∧i.vars=[]∧Input.okWide C.prog (w.forCall tape i) .any w.heap.size f i∧
   ((s.pre enc C.prog fn conds false (w.forCall tape i).memory i.args∧X (w.forCall tape i).memory)∧sizedMet enc C.prog fn (OpenSpec.ofChange s) false (w.forCall tape i).memory i.args)∧({}:Assume).holds C.prog (lone (Frame.enter C.prog f i.args .normal) [] (w.forCall tape i)))
  (hvars:s.vars=[])(hn:fn.params.size=n)(hres:fn.resultTypes= #[tb])(hb:C.prog.underlying tb=some .bool)
  (hspec:∀ds:List (DataW H),ds.length=n→s.fn H ds={ results:=[.lit (.bool true)],args:=ds })(hl:laidOutB C.prog=true)
  (htypes:(fn.params.toList.all λt=>C.prog.readableRec t&&decide (t<C.prog.types.size))=true)
  (hwalk:∀(W:World)(base:Nat)(args:Array Value)(ds:List (DataW H))(p:List MemPlace),X W→(∀(j:Nat) t v,fn.params[j]? =some t→args[j]? =some v→Value.okWide C.prog W .any base t v)→
   DataW.TrodAll enc C.prog W 0 (λ_=>true) true fn.params.toList args.toList ds p→(DataW.weightsEach C.prog fn.params.toList ds).all (·≤reachBytes)=true→
   Calls C.prog f args W λe W'=>e= .returned (.bool true)∧Below W.heap.size W W'):
  ReturnsInHanded {} C os f .any (λw args=>(s.pre enc C.prog fn conds false w args∧X w)∧sizedMet enc C.prog fn (OpenSpec.ofChange s) false w args) (s.post enc C.prog fn false true false false):=by
 refine returnsInHanded_of_change_and (X:=λw _=>X w) (λw w' _ hh h=>hX w w' hh h) own started noInit hfn witness ?_
 intro W base args ds gs before hval hW _ hsz hXW _
 have hW':=hW
 obtain⟨p,q,hA,hV,rfl,_,_⟩:=hW
 rw[hvars] at hV
 obtain⟨rfl,rfl⟩:=trodVars_none hV
 have hvt:s.plain.varTypes C.prog=[]:=by simp[DataSpec.varTypes,ChangeSpec.plain,hvars]
 rw[hvt] at hsz
 simp only[List.append_nil] at hsz hW'
 have hlt:∀y∈p,y.block<W.heap.size:=λy hy=>by simpa using hW'.lt y (by simp[hy])
 have hdl:ds.length=n:=by rw[(j9 hA).1];simpa using hn
 refine(hwalk W base args ds p hXW hval hA hsz).mono λe W' ⟨he,hbel⟩=>?_
 subst he
 refine⟨_,rfl,ds,[],p,[],p,[],?_,?_,?_,?_,hbel.frame _,λh=>by cases h⟩
 ·simpa using hW'
 ·simp only[List.append_nil,hspec ds hdl,hres]
  exact trodAll_mk1 (shut_bool hb _)
 ·simp only[List.append_nil,hspec ds hdl]
  exact iC hl hbel htypes hA hlt
 ·simp only[List.append_nil,hspec ds hdl,hvars]
  rfl
end Go.Sk
namespace Go.Sk
open Go.ChangeShapes Go.WideShapes Go.ChangeAt Go.RowKit
theorem vw{α:Type}(cs:Array Value)(f g:α→Value):∀(tab:List α)(i0:Nat),(∀k p,tab[k]? =some p→cs[2*(i0+k)]? =some (f p)∧cs[2*(i0+k)+1]? =some (g p))→∀j v,(tab.flatMap λp=> [f p,g p])[j]? =some v→cs[2*i0+j]? =some v
 |[],i0,h,j,v,hv=>by simp at hv
 |p::r,i0,h,0,v,hv=>by
  have:=(h 0 p rfl).1
  rw[List.flatMap_cons] at hv
  have e:f p=v:=inS hv
  rw[←e]
  exact this
 |p::r,i0,h,1,v,hv=>by
  have:=(h 0 p rfl).2
  rw[List.flatMap_cons] at hv
  have e:g p=v:=inS hv
  rw[←e]
  exact this
 |p::r,i0,h,j+2,v,hv=>by
  rw[List.flatMap_cons] at hv
  have:=vw cs f g r (i0+1) (λk q hq=>by
   have:=h (k+1) q (by simpa using hq)
   rw[show i0+1+k=i0+(k+1) by omega]
   exact this) j v hv
  rw[show 2*i0+(j+2)=2*(i0+1)+j by omega]
  exact this
theorem ri{φ w}{α:Type}(f g:α→ByteArray):∀l:List α,RFs φ w (l.flatMap λx=> [D.s (f x),D.s (g x)]) (l.flatMap λx=> [Value.string (f x),Value.string (g x)])
 |[]=>by simp[RFs]
 |x::l=>by
  simp only[List.flatMap_cons,List.cons_append,List.nil_append,RFs]
  exact⟨_,_,rfl,by simp[RD],_,_,rfl,by simp[RD],ri f g l⟩
theorem lZ{P:Program}{w:World}{name:String}{g n f:Nat}{t e ts:TypeId}{f0 f1:Field}{cs:Array Value}{sp:Nat→Bool}{tab:List (ByteArray×ByteArray)}{p:List MemPlace}(hu:P.underlying t=some (.array n e))(he:P.underlying e=some (.struct #[f0,f1]))(h0:f0.type=ts)(h1:f1.type=ts)(o0:f0.offset=0)(o1:f1.offset=1)(hs:P.underlying ts=some .string)(hcs:P.cellsOf ts=1)(hce:P.cellsOf e=2)(hct:P.cellsOf t=2*n)
  (hg:P.globalNamed name=some g)(hv:w.var? P name=some cs)(hd:DataW.trod (λ_=>()) P w 0 sp false f t cs.toList=some (.agg (tab.map λp=> .agg [.lit (.string p.1.data.toList), .lit (.string p.2.data.toList)]),p)):RPs (bj w) w (tab.flatMap λp=> [D.s p.1,D.s p.2]) g 0:=by
 obtain⟨xs,m,rfl,hx,hlen,hn,hel⟩:=DataW.trod_array hu hd
 simp only[Prod.mk.injEq,DataW.agg.injEq] at hx
 have htl:tab.length=n:=by
  have:=congrArg List.length hx.1
  simp only[List.length_map] at this
  omega
 rw[hct] at hlen
 have one:∀(i:Nat)(s:ByteArray)(k:Nat),((cs.toList.drop (i*2)).take 2|>.drop k).take 1=[Value.string s]→k<2→cs[2*i+k]? =some (.string s):=λi s k h hk=>by
  have h5:(((cs.toList.drop (i*2)).take 2|>.drop k).take 1)[0]? =some (Value.string s):=by rw[h];rfl
  rw[List.getElem?_take,if_pos oM,List.getElem?_drop,List.getElem?_take,if_pos oM,List.getElem?_drop] at h5
  rw[show 2*i+k=i*2+(k+0) by omega,←Array.getElem?_toList]
  exact h5
 have hcell:=vw cs (λp:ByteArray×ByteArray=>Value.string p.1) (λp=>Value.string p.2) tab 0 (λi q hq=>by
  have hin:i<n:=by rw[←htl];exact(giS.1 hq).1
  have h2:=hel i hin
  have hxi:i<xs.length:=oM
  rw[geG hxi] at h2
  obtain⟨y0,y1,n',e1,_,e3,e4⟩:=trod_struct2 he h2
  rw[hce,o0,h0,hcs] at e3
  rw[hce,o1,h1,hcs] at e4
  obtain⟨s0,a1,a2,_⟩:=DataW.trod_string hs e3
  obtain⟨s1,b1,b2,_⟩:=DataW.trod_string hs e4
  have h3:(tab.map λp=>(DataW.agg [.lit (.string p.1.data.toList), .lit (.string p.2.data.toList)]:DataW Unit))[i]? =some (xs[i]).1:=by rw[hx.1,List.getElem?_map,geG hxi];rfl
  rw[List.getElem?_map,hq,e1,a2,b2] at h3
  simp only[Option.map_some,au,DataW.agg.injEq,List.cons.injEq,DataW.lit.injEq,Lit.string.injEq,and_true,Array.toList_inj] at h3
  have c0:q.1=s0:=ByteArray.ext h3.1
  have c1:q.2=s1:=ByteArray.ext h3.2
  rw[c0,c1,Nat.zero_add]
  exact⟨one i s0 0 a1 oM,one i s1 1 b1 oM⟩)
 have hall:bj w g=cs.size:=by
  have h:=hv
  simp only[World.var?,hg,bnS] at h
  unfold bj
  split at h
  ·rename_i c _ _ hh
   simp only[au] at h
   subst h
   rw[hh]
  ·cases h
 refine d9 (vs:=tab.flatMap λp=> [Value.string p.1,Value.string p.2]) (ri _ _ _) (λj v hj=>?_)
 have h1:=hcell j v hj
 rw[Nat.zero_add,World.var?_cell hg hv,hall]
 rw[Nat.mul_zero,Nat.zero_add] at h1
 exact⟨(Array.getElem?_eq_some_iff.1 h1).1,h1⟩
end Go.Sk
namespace Go.Sk
open Go.RowKit (Below)
theorem Y1{a0 b:Prop}(k:b)(ha0:a0:=by exact O1 rfl (λ_=>rfl) rfl rfl):a0∧b:=⟨ha0,k⟩
theorem Y2{a0 a1 b:Prop}(k:b)(ha0:a0:=by exact O1 rfl (λ_=>rfl) rfl rfl)(ha1:a1:=by exact O1 rfl (λ_=>rfl) rfl rfl):a0∧a1∧b:=⟨ha0,ha1,k⟩
theorem Y3{a0 a1 a2 b:Prop}(k:b)(ha0:a0:=by exact O1 rfl (λ_=>rfl) rfl rfl)(ha1:a1:=by exact O1 rfl (λ_=>rfl) rfl rfl)(ha2:a2:=by exact O1 rfl (λ_=>rfl) rfl rfl):a0∧a1∧a2∧b:=⟨ha0,ha1,ha2,k⟩
theorem Y4{a0 a1 a2 a3 b:Prop}(k:b)(ha0:a0:=by exact O1 rfl (λ_=>rfl) rfl rfl)(ha1:a1:=by exact O1 rfl (λ_=>rfl) rfl rfl)(ha2:a2:=by exact O1 rfl (λ_=>rfl) rfl rfl)(ha3:a3:=by exact O1 rfl (λ_=>rfl) rfl rfl):a0∧a1∧a2∧a3∧b:=⟨ha0,ha1,ha2,ha3,k⟩
theorem Y5{a0 a1 a2 a3 a4 b:Prop}(k:b)(ha0:a0:=by exact O1 rfl (λ_=>rfl) rfl rfl)(ha1:a1:=by exact O1 rfl (λ_=>rfl) rfl rfl)(ha2:a2:=by exact O1 rfl (λ_=>rfl) rfl rfl)(ha3:a3:=by exact O1 rfl (λ_=>rfl) rfl rfl)(ha4:a4:=by exact O1 rfl (λ_=>rfl) rfl rfl):a0∧a1∧a2∧a3∧a4∧b:=⟨ha0,ha1,ha2,ha3,ha4,k⟩
theorem Y6{a0 a1 a2 a3 a4 a5 b:Prop}(k:b)(ha0:a0:=by exact O1 rfl (λ_=>rfl) rfl rfl)(ha1:a1:=by exact O1 rfl (λ_=>rfl) rfl rfl)(ha2:a2:=by exact O1 rfl (λ_=>rfl) rfl rfl)(ha3:a3:=by exact O1 rfl (λ_=>rfl) rfl rfl)(ha4:a4:=by exact O1 rfl (λ_=>rfl) rfl rfl)(ha5:a5:=by exact O1 rfl (λ_=>rfl) rfl rfl):a0∧a1∧a2∧a3∧a4∧a5∧b:=⟨ha0,ha1,ha2,ha3,ha4,ha5,k⟩
theorem Y7{a0 a1 a2 a3 a4 a5 a6 b:Prop}(k:b)(ha0:a0:=by exact O1 rfl (λ_=>rfl) rfl rfl)(ha1:a1:=by exact O1 rfl (λ_=>rfl) rfl rfl)(ha2:a2:=by exact O1 rfl (λ_=>rfl) rfl rfl)(ha3:a3:=by exact O1 rfl (λ_=>rfl) rfl rfl)(ha4:a4:=by exact O1 rfl (λ_=>rfl) rfl rfl)(ha5:a5:=by exact O1 rfl (λ_=>rfl) rfl rfl)(ha6:a6:=by exact O1 rfl (λ_=>rfl) rfl rfl):a0∧a1∧a2∧a3∧a4∧a5∧a6∧b:=⟨ha0,ha1,ha2,ha3,ha4,ha5,ha6,k⟩
theorem Y8{a0 a1 a2 a3 a4 a5 a6 a7 b:Prop}(k:b)(ha0:a0:=by exact O1 rfl (λ_=>rfl) rfl rfl)(ha1:a1:=by exact O1 rfl (λ_=>rfl) rfl rfl)(ha2:a2:=by exact O1 rfl (λ_=>rfl) rfl rfl)(ha3:a3:=by exact O1 rfl (λ_=>rfl) rfl rfl)(ha4:a4:=by exact O1 rfl (λ_=>rfl) rfl rfl)(ha5:a5:=by exact O1 rfl (λ_=>rfl) rfl rfl)(ha6:a6:=by exact O1 rfl (λ_=>rfl) rfl rfl)(ha7:a7:=by exact O1 rfl (λ_=>rfl) rfl rfl):a0∧a1∧a2∧a3∧a4∧a5∧a6∧a7∧b:=⟨ha0,ha1,ha2,ha3,ha4,ha5,ha6,ha7,k⟩
theorem Y9{a0 a1 a2 a3 a4 a5 a6 a7 a8 b:Prop}(k:b)(ha0:a0:=by exact O1 rfl (λ_=>rfl) rfl rfl)(ha1:a1:=by exact O1 rfl (λ_=>rfl) rfl rfl)(ha2:a2:=by exact O1 rfl (λ_=>rfl) rfl rfl)(ha3:a3:=by exact O1 rfl (λ_=>rfl) rfl rfl)(ha4:a4:=by exact O1 rfl (λ_=>rfl) rfl rfl)(ha5:a5:=by exact O1 rfl (λ_=>rfl) rfl rfl)(ha6:a6:=by exact O1 rfl (λ_=>rfl) rfl rfl)(ha7:a7:=by exact O1 rfl (λ_=>rfl) rfl rfl)(ha8:a8:=by exact O1 rfl (λ_=>rfl) rfl rfl):a0∧a1∧a2∧a3∧a4∧a5∧a6∧a7∧a8∧b:=⟨ha0,ha1,ha2,ha3,ha4,ha5,ha6,ha7,ha8,k⟩
theorem X2a{a0 a1 b:Prop}(k:b)(h0:a0:=by exact O2 rfl (λ_=>rfl) rfl rfl)(h1:a1:=by exact O2 rfl (λ_=>rfl) rfl rfl):(a0∧a1∧True)∧b:=⟨⟨h0,h1,trivial⟩,k⟩
theorem X2b{a00 a01 a10 a11 b:Prop}(k:b)(ha00:a00:=by exact O2 rfl (λ_=>rfl) rfl rfl)(ha01:a01:=by exact O2 rfl (λ_=>rfl) rfl rfl)(ha10:a10:=by exact O2 rfl (λ_=>rfl) rfl rfl)(ha11:a11:=by exact O2 rfl (λ_=>rfl) rfl rfl):(a00∧a01∧True)∧(a10∧a11∧True)∧b:=⟨⟨ha00,ha01,trivial⟩,⟨ha10,ha11,trivial⟩,k⟩
theorem X2c{a00 a01 a10 a11 a20 a21 b:Prop}(k:b)(ha00:a00:=by exact O2 rfl (λ_=>rfl) rfl rfl)(ha01:a01:=by exact O2 rfl (λ_=>rfl) rfl rfl)(ha10:a10:=by exact O2 rfl (λ_=>rfl) rfl rfl)(ha11:a11:=by exact O2 rfl (λ_=>rfl) rfl rfl)(ha20:a20:=by exact O2 rfl (λ_=>rfl) rfl rfl)(ha21:a21:=by exact O2 rfl (λ_=>rfl) rfl rfl):(a00∧a01∧True)∧(a10∧a11∧True)∧(a20∧a21∧True)∧b:=⟨⟨ha00,ha01,trivial⟩,⟨ha10,ha11,trivial⟩,⟨ha20,ha21,trivial⟩,k⟩
theorem X2d{a00 a01 a10 a11 a20 a21 a30 a31 b:Prop}(k:b)(ha00:a00:=by exact O2 rfl (λ_=>rfl) rfl rfl)(ha01:a01:=by exact O2 rfl (λ_=>rfl) rfl rfl)(ha10:a10:=by exact O2 rfl (λ_=>rfl) rfl rfl)(ha11:a11:=by exact O2 rfl (λ_=>rfl) rfl rfl)(ha20:a20:=by exact O2 rfl (λ_=>rfl) rfl rfl)(ha21:a21:=by exact O2 rfl (λ_=>rfl) rfl rfl)(ha30:a30:=by exact O2 rfl (λ_=>rfl) rfl rfl)(ha31:a31:=by exact O2 rfl (λ_=>rfl) rfl rfl):(a00∧a01∧True)∧(a10∧a11∧True)∧(a20∧a21∧True)∧(a30∧a31∧True)∧b:=⟨⟨ha00,ha01,trivial⟩,⟨ha10,ha11,trivial⟩,⟨ha20,ha21,trivial⟩,⟨ha30,ha31,trivial⟩,k⟩
theorem X3a{a0 a1 a2 b:Prop}(k:b)(h0:a0:=by exact O2 rfl (λ_=>rfl) rfl rfl)(h1:a1:=by exact O2 rfl (λ_=>rfl) rfl rfl)(h2:a2:=by exact O2 rfl (λ_=>rfl) rfl rfl):(a0∧a1∧a2∧True)∧b:=⟨⟨h0,h1,h2,trivial⟩,k⟩
theorem rc{P:Program}{e:En}[T:Tys P]{l:List Oper}{rs:List AV}{base:Env}{sts:Nat→List AO}{k d c c':Nat}{o:Oper}{pk bk:List Nat}{a b:Bool}(hb:a=b)(h:∀F:Env,ji T.t e.n l.toArray (sts c) 1 [o] (ju l rs base pk bk++F)=some ([],(d, .d (.v (.bool a)))::(ju l rs base pk bk++F)):=by exact λ_=>rfl)(hd:o.dst=some d:=by exact rfl)(hr:rs[k]? =some (.d (.v (.bool b))):=by exact rfl)(hu:sts c=sts c':=by exact rfl):Ob P e l rs base sts k o pk bk c c':=
 λF=>Rl 1 (h F) (WL.cast d (by simp[bt]) (wG (Cb hb)) (tY hd hr hu))
theorem zo{a b:Prop}(h:a)(k:b):(a∧True)∧b:=⟨⟨h,trivial⟩,k⟩
abbrev p00:List Nat×List Nat×List Nat:=([],[],[0])
abbrev p01(y0:Nat):List Nat×List Nat×List Nat:=([],[y0],[0])
abbrev q01(y0 z:Nat):List Nat×List Nat×List Nat:=([],[y0],[z])
abbrev p10(x0:Nat):List Nat×List Nat×List Nat:=([x0],[],[0])
abbrev q10(x0 z:Nat):List Nat×List Nat×List Nat:=([x0],[],[z])
abbrev p11(x0 y0:Nat):List Nat×List Nat×List Nat:=([x0],[y0],[0])
abbrev q11(x0 y0 z:Nat):List Nat×List Nat×List Nat:=([x0],[y0],[z])
abbrev p20(x0 x1:Nat):List Nat×List Nat×List Nat:=([x0,x1],[],[0])
abbrev q20(x0 x1 z:Nat):List Nat×List Nat×List Nat:=([x0,x1],[],[z])
abbrev p30(x0 x1 x2:Nat):List Nat×List Nat×List Nat:=([x0,x1,x2],[],[0])
abbrev p33(x0 x1 x2 y0 y1 y2:Nat):List Nat×List Nat×List Nat:=([x0,x1,x2],[y0,y1,y2],[0])
abbrev u00:List Nat×List Nat×List Nat:=([],[],[0,1])
abbrev u01(y0:Nat):List Nat×List Nat×List Nat:=([],[y0],[0,1])
abbrev u10(x0:Nat):List Nat×List Nat×List Nat:=([x0],[],[0,1])
abbrev v10(x0:Nat):List Nat×List Nat×List Nat:=([x0],[],[1,2])
abbrev u20(x0 x1:Nat):List Nat×List Nat×List Nat:=([x0,x1],[],[0,1])
theorem Z6{α β γ δ ε ζ:Type}{a:α}{b:β}{c:γ}{d:δ}{e:ε}{f:ζ}:a=a∧b=b∧c=c∧d=d∧e=e∧f=f:=⟨rfl,rfl,rfl,rfl,rfl,rfl⟩
theorem Z2{α β:Type}{a:α}{b:β}:a=a∧b=b:=⟨rfl,rfl⟩
theorem Z4{α β γ δ:Type}{a:α}{b:β}{c:γ}{d:δ}:a=a∧b=b∧c=c∧d=d:=⟨rfl,rfl,rfl,rfl⟩
theorem Z3{α β γ:Type}{a:α}{b:β}{c:γ}:a=a∧b=b∧c=c:=⟨rfl,rfl,rfl⟩
theorem wF{P:Program}{e:En}{ops:Array Oper}{rest:List Oper}{env:Env}{st:List AO}{R:Env→List AO→Prop}{o:Oper}{d:Nat}{f:FuncId}{c:Call}{x:Operand}{first caps asz:List AV}{ds:List D}{y:D}(a:o.op= .call c∧c.callee= .value x∧opv env x=some (.fn (.func f) first caps)∧dl env c.args.toList=some asz)(hc:Pu P f ds y)(hl:Les (first++asz++caps) (ds.map .d))
  (b:o.guard=none∧o.dst=some d∧Nat.ble (d+1) e.n=true)(h:WL P e ops rest ((d, .d y)::env) st R):WL P e ops (o::rest) env st R:=WL.fn a.1 a.2.1 a.2.2.1 a.2.2.2 hc hl (Wt.none b.1) b.2.1 b.2.2 h
theorem sS{P:Program}{e:En}{ops:Array Oper}{rest:List Oper}{env:Env}{st:List AO}{R:Env→List AO→Prop}{T:TypeId}{x y:Operand}{id off n:Nat}{T':TypeId}{cs:List AV}{r:AV}{rs:List AV}{ty:TypeId}{pos:String}{after:Array Edge}(a:opv env x=some (.pt id off)∧st[id]? =some (.row T' cs)∧opv env y=some r∧r.okc=true∧r.cells=rs∧rs.all AV.ok1=true)
  (hn:bF P T=some n)(b:rs.length=n∧Nat.ble (off+n) cs.length=true)(h:WL P e ops rest env (st.set id (.row T' (cs.take off++rs++cs.drop (off+n)))) R):WL P e ops (⟨none, .store T x y,ty,pos,after,none⟩::rest) env st R:=
 WL.s0 (uU a.1 a.2.1 a.2.2.1 a.2.2.2.1 a.2.2.2.2.1 a.2.2.2.2.2 hn b.1 b.2) (Wt.none rfl) rfl h
section
variable{P:Program}{e:En}{ops:Array Oper}{l:List Oper}{st:List AO}{env env0 env1:Env}{R:Env→List AO→Prop}
theorem Nn{t d:Nat}{b z:Bool}(n:Nat)(h1:env1=env1.take n++((t, .d (.v (.bool b)))::env0):=by exact rfl)(h2:gY (env1.take n) env0=true:=by exact rfl)(h3:Env.get (env1.take n) d=some (.d (.v (.bool z))):=by exact rfl):WL P e ops [] env1 st (λenv' st'=>st'=st∧GrpJ env0 t b d z env'):=WL.nil ⟨rfl,env1.take n,h1,h2,h3⟩
theorem Rn [T:Tys P]{t d:Nat}{b z:Bool}(k n:Nat)(h:ji T.t e.n ops st k l env=some ([],env1):=by exact rfl)(h1:env1=env1.take n++((t, .d (.v (.bool b)))::env0):=by exact rfl)(h2:gY (env1.take n) env0=true:=by exact rfl)(h3:Env.get (env1.take n) d=some (.d (.v (.bool z))):=by exact rfl):WL P e ops l env st (λenv' st'=>st'=st∧GrpJ env0 t b d z env'):=Rl k h (Nn n h1 h2 h3)
theorem On [T:Tys P]{t d:Nat}{b z z':Bool}(k n:Nat)(hz:some z'=some z)(h:ji T.t e.n ops st k l env=some ([],env1):=by exact rfl)(h1:env1=env1.take n++((t, .d (.v (.bool b)))::env0):=by exact rfl)(h2:gY (env1.take n) env0=true:=by exact rfl)(h3:Env.get (env1.take n) d=some (.d (.v (.bool z'))):=by exact rfl):WL P e ops l env st (λenv' st'=>st'=st∧GrpJ env0 t b d z env'):=Rn k n h h1 h2 (h3.trans (by rw[inS hz]))
theorem AG [T:Tys P]{env2:Env}(k t d a n:Nat){x y:Bool}(hr:WL P e ops (l.drop k) ((d, .d (.v (.bool (x&&y))))::env) st R)(hx:env.get t=some (.d (.v (.bool x))):=by exact rfl)(h:ji T.t e.n ops st a (l.take k) ((t, .d (.v (.bool true)))::env)=some ([],env1):=by exact rfl)(h1:env1=env1.take n++((t, .d (.v (.bool true)))::env):=by exact rfl)(h2:gY (env1.take n) env=true:=by exact rfl)(h3:Env.get (env1.take n) d=some (.d (.v (.bool y))):=by exact rfl)
  (g:ji T.t e.n ops st a (l.take k) ((t, .d (.v (.bool false)))::env)=some ([],env2):=by exact rfl)(g1:env2=env2.take n++((t, .d (.v (.bool false)))::env):=by exact rfl)(g2:gY (env2.take n) env=true:=by exact rfl)(g3:Env.get (env2.take n) d=some (.d (.v (.bool false))):=by exact rfl):WL P e ops l env st R:=WL.and k hx (λ_=>Rn a n h h1 h2 h3) (Rn a n g g1 g2 g3) hr
theorem OG [T:Tys P]{env2:Env}(k t d a n:Nat){x y:Bool}(hr:WL P e ops (l.drop k) ((d, .d (.v (.bool (x||y))))::env) st R)(hx:env.get t=some (.d (.v (.bool x))):=by exact rfl)(h:ji T.t e.n ops st a (l.take k) ((t, .d (.v (.bool false)))::env)=some ([],env1):=by exact rfl)(h1:env1=env1.take n++((t, .d (.v (.bool false)))::env):=by exact rfl)(h2:gY (env1.take n) env=true:=by exact rfl)(h3:Env.get (env1.take n) d=some (.d (.v (.bool y))):=by exact rfl)
  (g:ji T.t e.n ops st a (l.take k) ((t, .d (.v (.bool true)))::env)=some ([],env2):=by exact rfl)(g1:env2=env2.take n++((t, .d (.v (.bool true)))::env):=by exact rfl)(g2:gY (env2.take n) env=true:=by exact rfl)(g3:Env.get (env2.take n) d=some (.d (.v (.bool true))):=by exact rfl):WL P e ops l env st R:=WL.or k hx (λ_=>Rn a n h h1 h2 h3) (Rn a n g g1 g2 g3) hr
theorem Gg(k t d:Nat)(z:Bool){x:Bool}{β:Type}{a b w:β}(hb:(bif x then a else b)=w)(h1:a=w→WL P e ops (l.take k) ((t, .d (.v (.bool true)))::env) st λenv' st'=>st'=st∧GrpJ env t true d z env')(h0:b=w→WL P e ops (l.take k) ((t, .d (.v (.bool false)))::env) st λenv' st'=>st'=st∧GrpJ env t false d z env')
  (hr:WL P e ops (l.drop k) ((d, .d (.v (.bool z)))::env) st R)(hx:env.get t=some (.d (.v (.bool x))):=by exact rfl):WL P e ops l env st R:=WL.grp k hx (λhh=>h1 (cG hb hh)) (λhh=>h0 (cH hb hh)) hr
end
theorem fI{P:Program}{f:FuncId}{fn:Func}{c:Code}{asz:List D}{x:D}{n:Nat}(hf:P.funcs[f]? =some fn)(h:∀φ w,WC P ⟨[],φ,w,n,none,none⟩ c (.fin fn (λr' st'=>r'= .d x∧st'=[])) (gE 0 (asz.map .d)) [])(h1:(fn.name== "runtime.NumGoroutine")=false:=by kernel_rfl)
  (h2:fn.body=some c:=by exact rfl)(h3:fn.ntmps=n:=by exact rfl)(h4:Nat.ble (asz.map AV.d).length n=true:=by exact rfl):Pu P f asz x:=tv hf h1 h2 h3 h4 h
theorem cI{P:Program}{f:FuncId}{fn:Func}{c:Code}{asz:List AV}{st:List AO}{Q:AV→List AO→Prop}{n:Nat}(hf:P.funcs[f]? =some fn)(h:∀m φ w,m.length=st.length→WC P ⟨m,φ,w,n,none,none⟩ c (.fin fn Q) (gE 0 asz) st)(h1:(fn.name== "runtime.NumGoroutine")=false:=by kernel_rfl)
  (h2:fn.body=some c:=by exact rfl)(h3:fn.ntmps=n:=by exact rfl)(h4:Nat.ble asz.length n=true:=by exact rfl):Ctr P f asz st Q:=mI hf h1 h2 h3 h4 h
end Go.Sk
