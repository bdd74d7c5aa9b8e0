/-
  A slice of our own is put behind the others of a slice of slices: the family grows by one.
-/
import Derived.Maps.RangeRun
import Derived.Laws.IdiomStrings
import Derived.LaidMore
import Derived.OpenShut
import Derived.Stop.Joined
import Derived.ChangeArms
import Derived.ChangeSame
import Derived.Test.YtlkhnkpflmpjhaaGreatDoorSb
set_option linter.all false
namespace Go.Sk
open Go.RowKit (Below)
theorem iN{m φ w st k}(hs:SR m φ st w):∀{xs:List AV}{vs:List Value},RAs m φ w xs vs->(xs.all λx=>x.okS st&&Nat.beq x.cells.length k)=true->(∀v∈vs,v.cells.size=k)/\RAs m φ w (xs.map AV.cells).flatten (vs.map (·.cells.toList)).flatten
 |[],vs,h,_=>by simp only[RAs] at h;subst h;simp[RAs]
 |x::xs,vs,h,hk=>by
  obtain⟨c,cs,rfl,h2,h3⟩:=h;simp only[List.all_cons,Bool.and_eq_true] at hk;obtain⟨⟨k1,k2⟩,k3⟩:=hk;have k2:=nbE k2;obtain⟨us,g1,g2⟩:=lj hs h2 k1;obtain⟨i1,i2⟩:=iN hs h3 k3;grind [aL,ba]
section
variable{P:Program}{env:Env}{st:List AO}{dst:Option Tmp}{ty:TypeId}{pos:String}{after:Array Edge}{guard:Option (Nat×Bool)}
theorem nB{T e k by_ len:Nat}{zs:List Value}{parts:Array (Nat×Operand)}{xs:List AV}(hT:c3 P T=some (e,k,by_))(hz:bq P e=some zs)(hzl:zs.length=k)(hlen:len*k<=16777216)(h0:0<len*k)(hidx:parts.toList.map (·.1)=List.range len)
  (hx:dw env (parts.toList.map (·.2))=some xs)(hok:(xs.all λx=>x.okS st&&Nat.beq x.cells.length k)=true)(hm:len<=maxLen):
  NewOs P env st ⟨dst, .buildSlice T len parts,ty,pos,after,guard⟩ e k (xs.map AV.cells):=λm φ a w hs he=>by
 obtain⟨i,ht,hi,rfl,rfl⟩:=fK hT;obtain⟨z,hz1,hz2⟩:=fS hz hi;have hpl:parts.toList.length=len:=by have:=congrArg List.length hidx;simpa using this
 have hxl:xs.length=len:=by have:=d9 hx;simp at this hpl;omega
 have h1:=iu he hx;obtain⟨c1,c2⟩:=iN hs h1 hok;let vss:List Value:=(parts.toList.map λ(j,x)=>(j,a.eval x)).map (·.2);have hvl:vss.length=len:=by simp[vss];simpa using hpl
 let cells0:Array Value:=(Array.range (len*i.size)).map (z.cells[·%z.cells.size]!);have hc0:cells0.size=len*i.size:=by simp[cells0]
 have hfill:Instr.fill (λj=>some (j*i.size,i.size)) cells0 (parts.toList.map λ(j,x)=>(j,a.eval x))=some (vss.map (·.cells.toList)).flatten.toArray:=by
  have e:=ie (_β:=Unit) parts.toList a.eval (by rw[hidx,hpl]);rw[e];have e3:(parts.toList.map λp=>a.eval p.2)=vss:=by simp[vss]
  rw[e3,mM vss 0 cells0 c1 (by rw[hc0,hvl];simp)];simp[hvl,List.drop_of_length_le,hc0]
 have hn:¬(16777216<len*i.size):=oM;have h00:¬(len*i.size=0):=oM;have hpe:parts.map (λ(j,x)=>(j,a.eval x))=(parts.toList.map λ(j,x)=>(j,a.eval x)).toArray:=by apply Array.toList_inj.mp;simp
 have hrun:(execOp a.eval ⟨dst, .buildSlice T len parts,ty,pos,after,guard⟩).run P w= .ok (.value (.slice (some ⟨w.heap.size,0,none⟩) len len)) (w.alloc (.cells (vss.map (·.cells.toList)).flatten.toArray e)):=by
  have hz':(zeroValue e).run P w= .ok z w:=by simp[zeroValue,typeInfo,hi,hz1]
  have hso:(sizeOf e).run P w= .ok i.size w:=by simp[sizeOf,typeInfo,hi]
  simp only[execOp,Instr.buildSlice,Sem.run_bind,run_underlying ht,Result.andThen_ok,hso,gt_iff_lt,show(2:Nat)^24=16777216 from rfl,if_neg hn,Sem.run_pure,if_neg h00,hz',hpe];have hfill':Instr.fill (λj=>some (j*i.size,i.size)) (Array.map (λx=>z.cells[x%z.cells.size]!) (Array.range (len*i.size))) (parts.toList.map λx=>(x.1,a.eval x.2))=some (vss.map (·.cells.toList)).flatten.toArray:=hfill;rw[hfill'];simp[newRow]
 obtain⟨k1,k2,k3⟩:Ev m φ w (m++ [.tok 0 (.slice (some ⟨w.heap.size,0,none⟩) len len)]) φ (w.alloc (.cells (vss.map (·.cells.toList)).flatten.toArray e))/\SR (m++ [.tok 0 (.slice (some ⟨w.heap.size,0,none⟩) len len)]) φ (st++ [.os e i.size 0 (xs.map AV.cells)]) (w.alloc (.cells (vss.map (·.cells.toList)).flatten.toArray e))/\True:=by
  have hF:=Fz.alloc hs (.cells (vss.map (·.cells.toList)).flatten.toArray e);have hk:∀b,b<w.heap.size->(w.alloc (.cells (vss.map (·.cells.toList)).flatten.toArray e)).heap[b]? =w.heap[b]? :=λb hb=>bX hb;have hnew:∀b,(Cz.tok 0 (.slice (some ⟨w.heap.size,0,none⟩) len len)).has b->w.heap.size<=b:=λb hb=>by simp only[Cz.has,Value.ownBlock,aK] at hb;omega
  have hlen2:(vss.map (·.cells.toList)).flatten.length=len*i.size:=by
   have:=aL c2;have h2:∀l:List AV,(l.all λx=>x.okS st&&Nat.beq x.cells.length i.size)=true->(l.map AV.cells).flatten.length=l.length*i.size:=by
    intro l;induction l with
    |nil=>simp
    |cons x l ih=>intro h;simp only[List.all_cons,Bool.and_eq_true] at h;have:=nbE h.1.2;simp only[List.map_cons,List.flatten_cons,List.length_append,List.length_cons,ih h.2,Nat.succ_mul];omega
   rw[h2 xs hok,hxl] at this;exact this
  refine⟨Ev.push hs hF hk sM rfl rfl rfl hnew,SR.push hs hF hk sM ?_ hnew,trivial⟩;refine⟨_,(vss.map (·.cells.toList)).flatten,rfl,⟨by rw[hlen2];simp[hxl], .inr ⟨w.heap.size,len,_,by simp[hxl],Nat.zero_le _,heap_alloc_new w _,by simp[hxl],hm,by simpa using hlen2,?_⟩⟩,RAs.mono (Pre.append m _) hF _ _ c2,λf hf=>?_,λb hb=>?_⟩;rw[List.take_of_length_le (by simp only[List.length_map,hxl];simpa using Nat.le_of_eq hlen2)];obtain⟨x,hx1,rfl⟩:=List.mem_map.1 hf;have:=List.all_eq_true.1 hok x hx1;simp only[Bool.and_eq_true] at this;exact nbE this.2;simp only[Value.ownBlock,aK] at hb;exact hs.lt b oM
 exact⟨_,_,hrun,k1,k2,(Below.refl _ _).alloc (Nat.le_refl _) _,λb hb=>by simp only[Value.ownBlock,aK] at hb;omega⟩
theorem ui{T _T' e k by_:Nat}{zs:List Value}{s x:Operand}{id ver:Nat}{es fs:List (List AV)}{xr:AV}{c:Call}(hT:c3 P T=some (e,k,by_))(hz:bq P e=some zs)(hzl:zs.length=k)(hk:0<k)
  (hc:c=⟨.builtin .append, #[s,x], #[T,T]⟩)(hs:opv env s=some (.os id ver))(hi:st[id]? =some (.os e k ver es))(hx:opv env x=some xr)(hsrc:Src st xr k fs)(hf1:fs.flatten.all (AV.ok1S st)=true)(hfk:∀f∈fs,f.length=k)
  (h63:es.length+fs.length<=maxLen)(hby:(es.length+fs.length)*by_<=140737488355328):
  fP P env st ⟨dst, .call c,ty,pos,after,guard⟩ (.os id (ver+1)) (st.set id (.os e k (ver+1) (es++fs))):=λm φ a w hsr he=>by
 obtain⟨y,xs,g1,g2,g3,g4,g5,g6⟩:=oW hsr he hs hi;obtain⟨news,n1,n2,n3⟩:=hsrc m φ w _ hsr (bv he hx);obtain⟨v',w',r1,r2,r3,r4⟩:=ia (P:=P) (ty:=ty) hT hz hzl hk g3 n2 (nc hsr n1 hf1) n3 h63 hby;have hF:Fz φ w φ w':=λb off cc q1 q2=>⟨q1,by
  have hlt:=da hsr q1;have hne:some b≠y.ownBlock:=λe=>by have:=g6 b e.symm;omega
  rw[bx (r3.block b hlt hne)];exact q2⟩
 have hobj:OR (m.set id (.tok (ver+1) v')) φ w' (.os e k (ver+1) (es++fs)) (.tok (ver+1) v'):=by
  have hpre:Pre m (m.set id (.tok (ver+1) v')):=λi d hd=>by
   grind [id,iZ,Cz.le_refl]
  refine⟨v',xs++news,rfl,by rw[List.length_append];exact r2,?_,λf hf=>?_,λb hb=>?_⟩;grind [ba,RAs.mono];grind;rcases r4 with h|h
  grind;rw[h] at hb;simp only[aK] at hb;exact hsr.lt b oM
 obtain⟨k1,k2⟩:=fY (o':= .os e k (ver+1) (es++fs)) (c':= .tok (ver+1) v') (φ':=φ) hsr hi rfl g1 (iZ _ _ _) r3.os r3.tape r3.output r3.size
  (λb hb hn=>⟨r3.block b hb (λe=>hn (by simp[Cz.has,<-e])),rfl⟩) hF (λb hb=>hsr.lt b (Nat.le_trans r3.size hb))
  (λb hb=>by
   rcases r4 with h|h
   exact .inl (by simpa[Cz.has,h] using hb);right;simp only[Cz.has,h,aK] at hb;omega) hobj
 refine⟨v',w',_,φ, .inl ?_,k1,k2,?_⟩;subst hc;simp[execOp,resolve,invoke,builtin,g2,r1];simp only[RA];exact⟨ver+1,v',by rw[List.getElem?_set_self (gn g1)],Nat.le_refl _,λ_=>rfl⟩
end
section
variable{P:Program}{env:Env}{st:List AO}
end
def lU(fid ver:Nat):AV->AV
 | .osf f i v'=>if f=fid/\v'=ver then .osf fid i (ver+1) else .osf f i v'
 |x=>x
theorem vG{m φ st w}{fid oid T k ver:Nat}{ess:List (List (List AV))}{o:AO}(hs:SR m φ st w)(hf:st[fid]? =some (.fam T k ver ess))(ho:st[oid]? =some o)(hne:oid≠fid):
  ∃m',Ev m φ w m' φ w/\SR m' φ ((st.set fid (.fam T k (ver+1) (ess++ [[]]))).set oid (o.mapc (lU fid ver))) w:=by
 have hfl:=(giS.1 hf).1;have hol:=(giS.1 ho).1;obtain⟨c,hc⟩:∃c,m[fid]? =some c:=⟨_,geG (by rw[hs.len];exact hfl)⟩;obtain⟨ys,rfl,h1,h2,h3⟩:=hs.obj fid _ c hf hc;let m':=m.set fid (.fam (ver+1) (ys++ [fQ]));have hfid:m'[fid]? =some (.fam (ver+1) (ys++ [fQ])):=by simp[m',hs.len,hfl]
 have hoth:∀i,i≠fid->m'[i]? =m[i]? :=λi hif=>by simp only[m'];rw[List.getElem?_set_ne (Ne.symm hif)]
 have hpre:Pre m m':=λi d hd=>by
  by_cases hif:i=fid;subst hif;rw[hc] at hd;obtain rfl:=inS hd;exact⟨_,hfid,rR⟩;exact⟨d,by rw[hoth i hif];exact hd,Cz.le_refl d⟩
 have hsrc:∀b,(Cz.fam (ver+1) (ys++ [fQ])).has b->(Cz.fam ver ys).has b:=by
  rintro b ⟨z,hz,hb⟩;rcases List.mem_append.1 hz with h|h
  exact⟨z,h,hb⟩;rw[List.mem_singleton.1 h] at hb;exact(cQ hb).elim
 have hre:∀x u,RA m φ w x u->RA m' φ w (lU fid ver x) u:=by
  intro x u hx;have hm:=RA.mono hpre (Fz.refl φ w) x u hx;cases x with
  |osf f i vv=>
   simp only[lU];split;rename_i hcond;obtain⟨rfl,rfl⟩:=hcond;simp only[RA] at hx⊢;obtain⟨v0,ys0,q1,q2,q3⟩:=hx;rw[hc] at q1;simp only[aK,Cz.fam.injEq] at q1;obtain⟨rfl,rfl⟩:=q1;exact⟨_,_,hfid,Nat.le_refl _,λ_=>by
    have:=q3 rfl;rw[List.getElem?_append_left (giS.1 this).1];exact this⟩
   exact hm
  |_=>exact hm
 have get:∀(i:Nat)(p:AO),((st.set fid (.fam T k (ver+1) (ess++ [[]]))).set oid (o.mapc (lU fid ver)))[i]? =some p->
   (i=oid/\p=o.mapc (lU fid ver))\/(i=fid/\p= .fam T k (ver+1) (ess++ [[]]))\/(i≠fid/\i≠oid/\st[i]? =some p):=by
  intro i p hp;by_cases hio:i=oid;subst hio;rw[List.getElem?_set_self (by simpa using hol)] at hp;exact .inl ⟨rfl,(inS hp).symm⟩;rw[List.getElem?_set_ne (Ne.symm hio)] at hp;by_cases hif:i=fid;subst hif;rw[List.getElem?_set_self hfl] at hp;exact .inr (.inl ⟨rfl,(inS hp).symm⟩);rw[List.getElem?_set_ne (Ne.symm hif)] at hp;exact .inr (.inr ⟨hif,hio,hp⟩)
 have hnw:∀b,In m' b->In m b:=by rintro b ⟨i,d,hd,hb⟩;by_cases hif:i=fid;subst hif;rw[hfid] at hd;obtain rfl:=inS hd;exact⟨i,_,hc,hsrc b hb⟩;rw[hoth i hif] at hd;exact⟨i,d,hd,hb⟩
 refine⟨m',⟨hpre,λb h=> .inl (hnw b h),rfl,rfl,rfl,Nat.le_refl _,λ_ _ _=>⟨rfl,rfl⟩,Fz.refl φ w⟩,⟨by simp[m',hs.len],?_,hs.lt,?_,hs.gl,λb h=>hs.nb b (hnw b h)⟩⟩;intro i p d hp hd;rcases get i p hp with⟨rfl,rfl⟩|⟨rfl,rfl⟩|⟨g1,g2,g4⟩;rw[hoth i hne] at hd;exact(hs.obj i o d ho hd).mapc hre (λ_ _=>⟨rfl,rfl⟩);rw[hfid] at hd;obtain rfl:=inS hd;refine⟨_,rfl,by simp[h1],λi' es' y' hi' hy'=>?_,λa b z z' bb ha hb hz hz'=>?_⟩;rcases Nat.lt_or_ge i' ess.length with hl|hl
 rw[List.getElem?_append_left hl] at hi';rw[List.getElem?_append_left oM] at hy';obtain⟨xs,q1,q2,q3,q4⟩:=h2 i' es' y' hi' hy';exact⟨xs,q1,RAs.mono hpre (Fz.refl φ w) _ _ q2,q3,q4⟩;rw[List.getElem?_append_right hl] at hi';rw[List.getElem?_append_right oM] at hy';have e1:es'=[]:=by
  cases hh:i' - ess.length with
  |zero=>rw[hh] at hi';exact(inS hi').symm
  |succ n=>rw[hh] at hi';cases hi'
 have e2:y'=fQ:=by
  cases hh:i' - ys.length with
  |zero=>rw[hh] at hy';exact(inS hy').symm
  |succ n=>rw[hh] at hy';cases hy'
 subst e1;subst e2;exact⟨[],World.ownsRow_nil w 0 T k,by simp[RAs],sM,λb hb=>(cQ hb).elim⟩;have low:∀(a:Nat)(z:Value),(ys++ [fQ])[a]? =some z->z.ownBlock=some bb->ys[a]? =some z:=λa z ha hz=>by
  rcases Nat.lt_or_ge a ys.length with hl|hl
  rwa [List.getElem?_append_left hl] at ha;rw[List.getElem?_append_right hl] at ha;cases hh:a - ys.length with
  |zero=>rw[hh] at ha;obtain rfl:=inS ha;exact(cQ hz).elim
  |succ n=>rw[hh] at ha;cases ha
 exact h3 a b z z' bb (low a z ha hz) (low b z' hb hz') hz hz';rw[hoth i g1] at hd;exact(hs.obj i p d g4 hd).congr hpre (Fz.refl φ w) (λ_ _=>⟨rfl,rfl⟩);have src:∀(i:Nat)(p:AO)(d:Cz)(b:Nat),((st.set fid (.fam T k (ver+1) (ess++ [[]]))).set oid (o.mapc (lU fid ver)))[i]? =some p->p.live=true->m'[i]? =some d->d.has b->
   ∃(p0:AO)(d0:Cz),st[i]? =some p0/\p0.live=true/\m[i]? =some d0/\d0.has b:=by
  intro i p d b hp hl hd hb;rcases get i p hp with⟨rfl,rfl⟩|⟨rfl,rfl⟩|⟨g1,g2,g4⟩;rw[hoth i hne] at hd;exact⟨o,d,ho,by rwa [fB] at hl,hd,hb⟩;rw[hfid] at hd;obtain rfl:=inS hd;exact⟨_,_,hf,rfl,hc,hsrc b hb⟩;rw[hoth i g1] at hd;exact⟨p,d,g4,hl,hd,hb⟩
 intro i i' p p' d d' b hp hp' l l' hd hd' hb hb';obtain⟨p0,d0,a1,a2,a3,a4⟩:=src i p d b hp l hd hb;obtain⟨p1,d1,b1,b2,b3,b4⟩:=src i' p' d' b hp' l' hd' hb';exact hs.inj i i' p0 p1 d0 d1 b a1 b1 a2 b2 a3 b3 a4 b4
theorem uf{fid ver n nid v:Nat}:(((bf fid ver n)++ [[AV.os nid v]]:List (List AV)).map λe=>e.map (lU fid ver))=(bf fid (ver+1) (n+1)).set n [.os nid v]:=by simp only[bf,List.map_append,List.map_map,List.range_succ,List.map_cons,List.map_nil];rw[List.set_append_right _ _ sM];simp only[List.length_map,List.length_range,Nat.sub_self,List.set_cons_zero];grind [List.map_congr_left,lU]
section
variable{P:Program}{env:Env}{st:List AO}{dst:Option Tmp}{ty:TypeId}{pos:String}{after:Array Edge}{guard:Option (Nat×Bool)}
theorem yK{α:Type}{T e by_:Nat}{zs:List Value}{s x:Operand}{id vo fid ver bid nid v Ti ki:Nat}{es:List (List AV)}{c:Call}(L:List (List α))(X:List α)(hT:c3 P T=some (e,1,by_))(hz:bq P e=some zs)(hzl:zs.length=1)
  (hc:c=⟨.builtin .append, #[s,x], #[T,T]⟩)(hs:opv env s=some (.os id vo))(hi:st[id]? =some (.os e 1 vo (bf fid ver L.length)))(hx:opv env x=some (.os bid 0))(hb:st[bid]? =some (.os e 1 0 [[.os nid v]]))(hn:st[nid]? =some (.os Ti ki v es))(hok:de by_ L [X]=true):
  fP P env st ⟨dst, .call c,ty,pos,after,guard⟩ (.os id (vo+1)) (st.set id (.os e 1 (vo+1) (bf fid ver L.length++ [[.os nid v]]))):=
 ui (_T':=0) hT hz hzl Nat.one_pos hc hs hi hx (Src.own hb) (by simp[AV.ok1S,hn]) (λf hf=>by rw[List.mem_singleton.1 hf];rfl) (by rw[fa];simpa using oh hok) (by rw[fa];simpa using qL hok)
end
section
variable{e:En}{env:Env}{st:List AO}
theorem qs{α:Type}{E:α->List D}{L:List (List α)}{x':List α}(oid fid nid:Nat){To vo T k ver v:Nat}(ho:st[oid]? =some (.os To 1 vo (bf fid ver L.length++ [[.os nid v]])))(hf:st[fid]? =some (.fam T k ver (bu E L)))(hn:st[nid]? =some (.os T k v (x'.map (aS E))))(hne:Nat.beq oid fid=false)(hne2:Nat.beq oid nid=false)(hne3:Nat.beq fid nid=false):
  Gh e env st env (((st.set fid (.fam T k (ver+2) (bu E (L++ [x'])))).set nid .dead).set oid (.os To 1 vo (bf fid (ver+2) (L++ [x']).length))):=λm φ a w hinv=>by
 have hne':oid≠fid:=by grind
 have hne2':oid≠nid:=λh=>by simp[h] at hne2
 have hne3':fid≠nid:=by grind
 have hfl:=(giS.1 hf).1;have hol:=(giS.1 ho).1;obtain⟨m1,h1,h2⟩:=vG hinv.sr hf ho hne';have h3:=hinv.go h1 h2;simp only[AO.mapc] at h3;rw[uf] at h3;have hL:(bu E L++ [[]]:List (List (List AV)))=bu E (L++ [[]]):=by simp[bu]
 rw[hL] at h3;have hlen:(L++ [([]:List α)]).length=L.length+1:=sM;have ho2:((st.set fid (.fam T k (ver+1) (bu E (L++ [[]])))).set oid (.os To 1 vo ((bf fid (ver+1) (L.length+1)).set L.length [.os nid v])))[oid]? =some (.os To 1 vo ((bf fid (ver+1) (L++ [([]:List α)]).length).set L.length [.os nid v])):=by grind
 have hf2:((st.set fid (.fam T k (ver+1) (bu E (L++ [[]])))).set oid (.os To 1 vo ((bf fid (ver+1) (L.length+1)).set L.length [.os nid v])))[fid]? =some (.fam T k (ver+1) (bu E (L++ [[]]))):=by grind
 have hn2:((st.set fid (.fam T k (ver+1) (bu E (L++ [[]])))).set oid (.os To 1 vo ((bf fid (ver+1) (L.length+1)).set L.length [.os nid v])))[nid]? =some (.os T k v (x'.map (aS E))):=by grind
 obtain⟨m2,φ2,h4⟩:=jI (e:=e) (env:=env) (_x:=[]) (x':=x') (j:=L.length) oid fid nid (L++ [x']) ho2 hf2 hn2 hne hne2 sM sM m1 φ a w h3;refine⟨m2,φ2,?_⟩;have e1:∀(A B C D E':AO),(((((st.set fid A).set oid B).set fid C).set nid D).set oid E')=(((st.set fid C).set nid D).set oid E'):=λA B C D E'=>by
  apply List.ext_getElem?;intro i;by_cases h1:i=oid;grind;rw[List.getElem?_set_ne (Ne.symm h1),List.getElem?_set_ne (Ne.symm h1)];by_cases h2:i=nid;grind;rw[List.getElem?_set_ne (Ne.symm h2),List.getElem?_set_ne (Ne.symm h2)];grind
 grind
end
end Go.Sk
namespace Go.Sk
end Go.Sk
namespace Go.Sk
variable{P:Program}{e:En}{env:Env}{st:List AO}{K:Ko}
theorem wD{k:Ko}{x:Code}(J:Env->List AO->Prop)(h1:WC P e x (.lp J k) env st)(h2:∀env' st',J env' st'->WE P e .normal k env' st'):WC P e x k env st:=λm φ a w hi=>by
 refine wpIn_mono (h1 m φ a w hi) ?_;intro ex a' w' hq;cases ex with
 |normal=>obtain⟨env',st',m',φ',hJ,hi'⟩:=hq;exact h2 env' st' hJ m' φ' a' w' hi'
 |_=>exact hq
end Go.Sk
namespace Go.Sk
section
variable{P:Program}{env:Env}{st:List AO}{dst:Option Tmp}{ty:TypeId}{pos:String}{after:Array Edge}{guard:Option (Nat×Bool)}
end
end Go.Sk
namespace Go.Sk
open Go.RowKit (Below)
section
variable{P:Program}{e:En}{ops:Array Oper}{l rest:List Oper}{env:Env}{st:List AO}{R:Env->List AO->Prop}{K:Ko}{dst:Option Tmp}{ty:TypeId}{pos:String}{after:Array Edge}{guard:Option (Nat×Bool)}
end
end Go.Sk
namespace Go.Sk
section
variable{P:Program}{e:En}{env:Env}{st:List AO}
end
end Go.Sk
namespace Go.Sk
end Go.Sk
namespace Go.Sk
abbrev AV.n(x:Int):AV:= .d (D.i .i64 x)
abbrev AV.l{α:Type}(E:α->List D)(L:List α):AV:= .d (.sl (L.map E))
theorem q{α:Sort _}{a:α}:a=a:=rfl
abbrev Zt:True:=trivial
abbrev Zs:= @Les.refl
theorem Zp{T:Nat}{l:List AV}:OLe (.row T l) (.row T l):=⟨rfl,Les.refl _⟩
theorem Zf{α β γ δ:Type}{a:α}{b:β}{c:γ}{d:δ}:a=a/\b=b/\c=c/\d=d:=⟨rfl,rfl,rfl,rfl⟩
abbrev Zw:= @Wt.none
theorem Oi{α:Type}{a b:α}(h:some a=some b):a=b:=inS h
abbrev Zd:= @m5
abbrev eM{α:Type}(E:α->List D)(L:List α):List (List AV):=L.map (aS E)
abbrev rF(t f:Nat):AO:= .row t [.fn (.func f) [] []]
abbrev Zl{a:AV}:Le a a:=Le.refl a
abbrev Zn:= @WL.ns
abbrev Zq:= @WL.qn
abbrev Zy:= @WL.qy
theorem Sx{env' env:Env}{t:Nat}{x:AV}(h:env.get t=some x)(hs:Sub env' env):Sub ((t,x)::env') env:=Sub.cons h (Le.refl _) hs
theorem Lo{n T k v:Nat}{α:Type}{E:α->List D}{L:List α}{l:List AO}(k':dg n l=true):dg n (.os T k v (L.map (aS E))::l)=true:=az (sJ _ _ _ _ _ _) k'
theorem Lf{n T k v:Nat}{α:Type}{E:α->List D}{L:List (List α)}{l:List AO}(k':dg n l=true):dg n (.fam T k v (bu E L)::l)=true:=az (rJ _ _ _ _ _ _) k'
theorem Lg{n T k v fid ver m:Nat}{l:List AO}(h:Nat.ble (fid+1) n=true)(k':dg n l=true):dg n (.os T k v (bf fid ver m)::l)=true:=az (vh _ _ _ _ _ _ _ h) k'
theorem Ro{js:List Nat}{T k v:Nat}{α:Type}{E:α->List D}{L:List α}{l l':List AO}(h:l=l'):AO.ren js (.os T k v (L.map (aS E)))::l= .os T k v (L.map (aS E))::l':=cL (uY _ _ _ _ _ _) h
theorem Rf{js:List Nat}{T k v:Nat}{α:Type}{E:α->List D}{L:List (List α)}{l l':List AO}(h:l=l'):AO.ren js (.fam T k v (bu E L))::l= .fam T k v (bu E L)::l':=cL (wK _ _ _ _ _ _) h
theorem Rg{js:List Nat}{T v fid fv n:Nat}{l l':List AO}(h:l=l'):AO.ren js (.os T 1 v (bf fid fv n))::l= .os T 1 v (bf (js.getD fid 0) fv n)::l':=cL (wJ _ _ _ _ _ _) h
end Go.Sk
namespace Go.Sk
inductive NT(α:Type) where
 |lf
 |nd(k:Nat)(v:α)(l r:NT α)
def NT.get{α:Type}:NT α->Nat->Option α
 | .lf,_=>none
 | .nd k v l r,i=>bif Nat.beq i k then some v else bif Nat.blt i k then l.get i else r.get i
def NT.chk{α:Type}(f:Nat->Option α)(eq:α->α->Bool):NT α->Bool
 | .lf=>true
 | .nd k v l r=>(match f k with|some u=>eq u v|none=>false)&&(l.chk f eq&&r.chk f eq)
theorem eQ{α:Type}{f:Nat->Option α}{eq:α->α->Bool}(he:∀a b,eq a b=true->a=b):∀{t:NT α},t.chk f eq=true->∀{i:Nat}{v:α},t.get i=some v->f i=some v
 | .lf,_,i,v,h=>by cases h
 | .nd k u l r,hc,i,v,h=>by
  simp only[NT.chk,Bool.and_eq_true] at hc;unfold NT.get at h;cases hb:Nat.beq i k with
  |true=>grind [nbE]
  |false=>
   rw[hb] at h;cases hl:Nat.blt i k with
   |true=>rw[hl] at h;exact eQ he hc.2.1 h
   |false=>rw[hl] at h;exact eQ he hc.2.2 h
structure Ty where
 ag:NT Bool
 sz:NT Nat
 fo:NT (Nat×Nat×Bool)
 un:NT IntKind
def unK(P:Program)(T:Nat):Option IntKind:=match P.underlying T with
 |some (.int k)=>some k
 |_=>none
def foEq(a b:Nat×Nat×Bool):Bool:=Nat.beq a.1 b.1&&(Nat.beq a.2.1 b.2.1&&(a.2.2==b.2.2))
def Ty.ok(P:Program)(t:Ty):Bool:=
 t.ag.chk (aX P) (·==·)&&(t.sz.chk (bI P) Nat.beq&&(t.fo.chk (λi=>cZ P (i / 64) (i%64)) foEq&&t.un.chk (unK P) (λa b=>decide (a=b))))
def Ty.fo'(t:Ty)(S i:Nat):Option (Nat×Nat×Bool):=bif Nat.blt i 64 then t.fo.get (S*64+i) else none
class Tys(P:Program) where
 t:Ty
 h:t.ok P=true
section
variable{P:Program}{t:Ty}(ht:t.ok P=true)
include ht
theorem ku{T:Nat}{b:Bool}(h:t.ag.get T=some b):aX P T=some b:=by simp only[Ty.ok,Bool.and_eq_true] at ht;exact eQ (λa b h=>by simpa using h) ht.1 h
theorem qP{T:Nat}{b:Nat}(h:t.sz.get T=some b):bI P T=some b:=by simp only[Ty.ok,Bool.and_eq_true] at ht;exact eQ (λa b h=>nbE h) ht.2.1 h
theorem m6{S i:Nat}{b:Nat×Nat×Bool}(h:t.fo' S i=some b):cZ P S i=some b:=by
 simp only[Ty.ok,Bool.and_eq_true] at ht;unfold Ty.fo' at h;cases hb:Nat.blt i 64 with
 |false=>simp_all
 |true=>
  rw[hb] at h;have hlt:i<64:=by simp_all
  have:=eQ (λa b h=>by
   simp only[foEq,Bool.and_eq_true] at h;obtain⟨h1,h2,h3⟩:=h;obtain⟨a1,a2,a3⟩:=a;simp only at h1 h2 h3;rw[nbE h1,nbE h2,eq_of_beq h3]) ht.2.2.1 h
  grind
theorem qO{T:Nat}{k:IntKind}(h:t.un.get T=some k):P.underlying T=some (.int k):=by simp only[Ty.ok,Bool.and_eq_true] at ht;have:=eQ (λa b h=>of_decide_eq_true h) ht.2.2.2 h;grind [unK]
end
def xK(k:IntKind)(p q:Int):BinOp->Option AV
 | .add=>some (.d (.v (.int k (k.wrap (p+q)))))
 | .sub=>some (.d (.v (.int k (k.wrap (p - q)))))
 | .mul=>some (.d (.v (.int k (k.wrap (p*q)))))
 | .lss=>some (.d (.v (.bool (decide (p<q)))))
 | .leq=>some (.d (.v (.bool (decide (p<=q)))))
 | .gtr=>some (.d (.v (.bool (decide (p>q)))))
 | .geq=>some (.d (.v (.bool (decide (p>=q)))))
 | .eql=>some (.d (.v (.bool (decide (p=q)))))
 | .neq=>some (.d (.v (.bool (!decide (p=q)))))
 |_=>none
def xC(p q:ByteArray):BinOp->Option AV
 | .eql=>some (.d (.v (.bool (p.toList==q.toList))))
 | .neq=>some (.d (.v (.bool (!(p.toList==q.toList)))))
 |_=>none
def binS(b:BinOp):AV->AV->Option AV
 | .d (.v (.int k p)), .d (.v (.int k' q))=>bif decide (k=k') then xK k p q b else none
 | .d (.v (.string p)), .d (.v (.string q))=>xC p q b
 |_,_=>none
def xH(t:Ty)(st:List AO)(T:Nat):AV->Option AV
 | .pt id off=>match t.ag.get T with
  |some false=>match st[id]? with
   |some (.row _ cs)=>cs[off]?
   |_=>none
  |some true=>match st[id]?,t.sz.get T with
   |some (.row _ cs),some n=>bif Nat.ble (off+n) cs.length then some (.ag ((cs.drop off).take n)) else none
   |_,_=>none
  |none=>none
 | .d (.pc ps)=>match t.ag.get T with
  |some false=>match ps[0]? with
   |some p=>some (.d p)
   |none=>none
  |some true=>match t.sz.get T with
   |some n=>bif Nat.ble n ps.length then some (.d (.ag (ps.take n))) else none
   |none=>none
  |none=>none
 |_=>none
def faS(fo:Nat):AV->Option AV
 | .pt id off=>some (.pt id (off+fo))
 | .d (.pc ps)=>some (.d (.pc (ps.drop fo)))
 |_=>none
def fldS(f:Nat×Nat×Bool):AV->Option AV
 | .d (.ag ps)=>match f with
  |(fo,_,false)=>match ps[fo]? with
   |some p=>some (.d p)
   |none=>none
  |(fo,n,true)=>some (.d (.ag ((ps.drop fo).take n)))
 | .ag ps=>match f with
  |(fo,_,false)=>ps[fo]?
  |(fo,n,true)=>some (.ag ((ps.drop fo).take n))
 |_=>none
def nilS:AV->Option AV
 | .pt id off=>some (.pt id off)
 | .d (.pc ps)=>some (.d (.pc ps))
 | .fn (.func f) a b=>some (.fn (.func f) a b)
 |_=>none
def extS(i:Nat):AV->Option AV
 | .tu l=>l[i]?
 | .d (.tu l)=>match l[i]? with
  |some p=>some (.d p)
  |none=>none
 |_=>none
def notS:AV->Option AV
 | .d (.v (.bool b))=>some (.d (.v (.bool (!b))))
 |_=>none
def negS:AV->Option AV
 | .d (.v (.int k p))=>some (.d (.v (.int k (k.wrap (0 - p)))))
 |_=>none
def xS(k:IntKind):AV->Option AV
 | .d (.v (.int _ p))=>some (.d (.v (.int k (k.wrap p))))
 |_=>none
def wd:AV->Option Bool
 | .d (.v (.bool b))=>some b
 |_=>none
theorem qK{x:AV}{b:Bool}(h:wd x=some b):x= .d (.v (.bool b)):=by unfold wd at h;split at h;rw[inS h];cases h
def lA(t:Ty)(env:Env)(st:List AO):Op->Option AV
 | .move x=>opv env x
 | .assign x=>opv env x
 | .pick c x y=>match(opv env c).bind wd with
  |some true=>opv env x
  |some false=>opv env y
  |none=>none
 | .load T x=>(opv env x).bind (xH t st T)
 | .fieldAddr S x i=>match t.fo' S i with
  |some (fo,_+1,_)=>(opv env x).bind (faS fo)
  |_=>none
 | .field S x i=>match t.fo' S i with
  |some f=>(opv env x).bind (fldS f)
  |none=>none
 | .nilCheck x=>(opv env x).bind nilS
 | .extract x i=>(opv env x).bind (extS i)
 | .unOp .not _ x=>(opv env x).bind notS
 | .unOp .neg _ x=>(opv env x).bind negS
 | .binOp b _ x y _=>match opv env x,opv env y with
  |some u1,some v1=>binS b u1 v1
  |_,_=>none
 | .convert S T x=>match t.un.get S,t.un.get T with
  |some _,some k=>(opv env x).bind (xS k)
  |_,_=>none
 | .makeFunc f first caps=>match dw env first.toList,dw env caps.toList with
  |some a,some b=>some (.fn f a b)
  |_,_=>none
 |_=>none
theorem jl{α β:Type}{o:Option α}{f:α->Option β}{r:β}(h:o.bind f=some r):∃x,o=some x/\f x=some r:=by
 cases o with
 |none=>cases h
 |some x=>simp_all
section
variable{P:Program}{t:Ty}(ht:t.ok P=true){env:Env}{st:List AO}{dst:Option Tmp}{ty:TypeId}{pos:String}{after:Array Edge}{guard:Option (Nat×Bool)}
include ht
theorem pP{op:Op}{r:AV}(h:lA t env st op=some r):Yields P env st ⟨dst,op,ty,pos,after,guard⟩ r:=by
 cases op with
 |move x=>exact yf h
 |assign x=>exact uC h
 |pick c x y=>dsimp only[lA] at h;split at h;rename_i hc;obtain⟨z,h1,h2⟩:=jl hc;rw[qK h2] at h1;exact ut h1 h;rename_i hc;obtain⟨z,h1,h2⟩:=jl hc;rw[qK h2] at h1;exact uv h1 h;cases h
 |load T x=>obtain⟨z,h1,h2⟩:=jl h;unfold xH at h2;split at h2;split at h2;grind [q8,ku];grind [oy,ku,qP];cases h2;split at h2;grind [wx,ku];grind [uw,ku,qP];cases h2;cases h2
 |fieldAddr S x i=>dsimp only[lA] at h;split at h;rename_i hf;obtain⟨z,h1,h2⟩:=jl h;unfold faS at h2;grind [pE,m6,oz];cases h
 |field S x i=>dsimp only[lA] at h;split at h;rename_i hf;obtain⟨z,h1,h2⟩:=jl h;unfold fldS at h2;split at h2;grind [wz,m6,uz];grind [uy,m6,tA];cases h2;cases h
 |nilCheck x=>obtain⟨z,h1,h2⟩:=jl h;unfold nilS at h2;grind [py,pA,pz]
 |extract x i=>obtain⟨z,h1,h2⟩:=jl h;unfold extS at h2;grind [tB,q9]
 |unOp u T x=>
  cases u with
  |not=>obtain⟨z,h1,h2⟩:=jl h;unfold notS at h2;grind [y_not]
  |neg=>obtain⟨z,h1,h2⟩:=jl h;unfold negS at h2;grind [y_neg]
  |_=>cases h
 |binOp b T x y T'=>
  dsimp only[lA] at h;split at h;rename_i hu hv;unfold binS at h;split at h;rename_i k p k' q;cases hk:decide (k=k') with
  |false=>grind
  |true=>
   rw[hk] at h;have hk:=of_decide_eq_true hk;subst hk;simp only[cdT] at h;cases b<;>simp only[xK] at h<;>first|cases h|(obtain rfl:=inS h)
   grind [je];grind [y_sub];grind [y_mul];exact y_eql hu hv;exact y_neq hu hv;exact y_lss hu hv;exact y_leq hu hv;exact y_gtr hu hv;exact y_geq hu hv
  cases b<;>simp only[xC] at h<;>first|cases h|(obtain rfl:=inS h)
  exact y_eqs hu hv;exact y_nes hu hv;cases h;cases h
 |convert S T x=>dsimp only[lA] at h;split at h;rename_i hS hT;obtain⟨z,h1,h2⟩:=jl h;unfold xS at h2;split at h2;obtain rfl:=inS h2;exact yg (qO ht hS) (qO ht hT) h1 rfl;cases h2;cases h
 |makeFunc f a b=>grind [lA,qX]
 |_=>cases h
end
def pM(ops:Array Oper)(env:Env):Option (Nat×Bool)->Option Bool
 |none=>some true
 |some (j,b)=>match(ops[j]?).bind (·.dst) with
  |some t=>match env.get t with
   |some (.d (.v (.bool x)))=>some (x==b)
   |some (.d (.v (.tuple _)))=>some false
   |_=>none
  |none=>none
def lB(t:Ty)(n:Nat)(ops:Array Oper)(st:List AO)(env:Env)(o:Oper):Option Env:=
 match pM ops env o.guard with
 |some true=>match o.dst with
  |some d=>bif Nat.ble (d+1) n then(match lA t env st o.op with
   |some r=>some ((d,r)::env)
   |none=>none) else none
  |none=>none
 |some false=>match o.dst with
  |some d=>bif Nat.ble (d+1) n then some ((d, .d (.v undef))::env) else none
  |none=>some env
 |none=>none
def j0(t:Ty)(n:Nat)(ops:Array Oper)(st:List AO):Nat->List Oper->Env->Option (List Oper×Env)
 |0,l,env=>some (l,env)
 |k+1,o::l,env=>match lB t n ops st env o with
  |some env'=>j0 t n ops st k l env'
  |none=>none
 |_+1,[],_=>none
section
variable{P:Program}{t:Ty}(ht:t.ok P=true){e:En}{ops:Array Oper}{st:List AO}{R:Env->List AO->Prop}{n:Nat}{RQ:Env->Prop}
omit ht in
theorem ml{env:Env}{o:Oper}(h:pM ops env o.guard=some true):Wt ops env o true:=by unfold pM at h;grind [Wt.none,aR]
omit ht in
theorem lv{env:Env}{o:Oper}(h:pM ops env o.guard=some false):Wt ops env o false:=by unfold pM at h;split at h;cases h;rename_i j b hg;split at h;rename_i hj;split at h;grind [Wt.no];rename_i x hx;intro m φ w a he;simp only[Region.wanted,hg,jr he hj hx];rfl;cases h;cases h
include ht
theorem jX{env env':Env}{o:Oper}{l:List Oper}(h:lB t e.n ops st env o=some env')(k:WL P e ops l env' st R):WL P e ops (o::l) env st R:=by
 unfold lB at h;split at h;rename_i hw;split at h;rename_i d hd;cases hb:Nat.ble (d+1) e.n with
 |false=>grind
 |true=>rw[hb] at h;split at h;rename_i r hr;obtain rfl:=inS h;exact WL.q (pP ht hr) (ml hw) hd hb k;cases h
 cases h;grind [WL.skip,lv,WL.skip0];cases h
theorem uM{env env':Env}{o:Oper}{l:List Oper}(h:lB t n ops st env o=some env')(k:WQ P n ops l env' st RQ):WQ P n ops (o::l) env st RQ:=by
 unfold lB at h;split at h;rename_i hw;split at h;rename_i d hd;cases hb:Nat.ble (d+1) n with
 |false=>grind
 |true=>rw[hb] at h;split at h;rename_i r hr;obtain rfl:=inS h;exact WQ.q (gX (pP ht hr)) (ml hw) hd hb k;cases h
 cases h;grind [WQ.skip,lv,WQ.skip0];cases h
theorem sq:∀{k:Nat}{l l':List Oper}{env env':Env},j0 t e.n ops st k l env=some (l',env')->WL P e ops l' env' st R->WL P e ops l env st R
 |0,l,l',env,env',h,k=>by obtain⟨rfl,rfl⟩:=Prod.mk.inj (inS h);exact k
 |j+1,[],l',env,env',h,k=>by cases h
 |j+1,o::l,l',env,env',h,k=>by
  unfold j0 at h;split at h;rename_i hs;exact jX ht hs (sq h k);cases h
theorem so:∀{k:Nat}{l l':List Oper}{env env':Env},j0 t n ops st k l env=some (l',env')->WQ P n ops l' env' st RQ->WQ P n ops l env st RQ
 |0,l,l',env,env',h,k=>by obtain⟨rfl,rfl⟩:=Prod.mk.inj (inS h);exact k
 |j+1,[],l',env,env',h,k=>by cases h
 |j+1,o::l,l',env,env',h,k=>by
  unfold j0 at h;split at h;rename_i hs;exact uM ht hs (so h k);cases h
end
theorem Rl{P:Program}[T:Tys P]{e:En}{ops:Array Oper}{st:List AO}{R:Env->List AO->Prop}{l l':List Oper}{env env':Env}(k:Nat)(h:j0 T.t e.n ops st k l env=some (l',env'))(hw:WL P e ops l' env' st R):WL P e ops l env st R:=sq T.h h hw
theorem Rq{P:Program}[T:Tys P]{n:Nat}{ops:Array Oper}{st:List AO}{R:Env->Prop}{l l':List Oper}{env env':Env}(k:Nat)(h:j0 T.t n ops st k l env=some (l',env'))(hw:WQ P n ops l' env' st R):WQ P n ops l env st R:=so T.h h hw
inductive SS where
 |c(c:Code)(k:Ko)
 |x(x:Exit)(k:Ko)
 |l(ops:Array Oper)(l:List Oper)(k:Ko)
@[reducible] def SS.den(P:Program)(e:En)(env:Env)(st:List AO):SS->Prop
 | .c cd k=>WC P e cd k env st
 | .x ex k=>WE P e ex k env st
 | .l ops ol k=>WL P e ops ol env st (λenv' st'=>WE P e .normal k env' st')
def ctlC(k:Ko):Code->Option SS
 | .seq x y=>some (.c x (.seq y k))
 | .skip=>some (.x .normal k)
 | .ret=>some (.x .ret k)
 | .exit i=>some (.x (.exit i) k)
 | .block i x=>some (.c x (.blk i k))
 | .region _ a false=>bif c9 a.toList then some (.l a a.toList k) else none
 |_=>none
def ctlX:Exit->Ko->Option SS
 | .normal, .seq c k=>some (.c c k)
 | .ret, .seq _ k=>some (.x .ret k)
 | .exit i, .seq _ k=>some (.x (.exit i) k)
 | .normal, .blk _ k=>some (.x .normal k)
 | .ret, .blk _ k=>some (.x .ret k)
 | .exit i, .blk j k=>bif Nat.beq i j then some (.x .normal k) else some (.x (.exit i) k)
 | .ret, .lp _ k=>some (.x .ret k)
 | .exit i, .lp _ k=>some (.x (.exit i) k)
 |_,_=>none
def pQ(t:Ty)(n:Nat)(st:List AO)(env:Env):SS->Option (SS×Env)
 | .c cd k=>match ctlC k cd with
  |some s=>some (s,env)
  |none=>none
 | .x ex k=>match ctlX ex k with
  |some s=>some (s,env)
  |none=>none
 | .l _ [] k=>some (.x .normal k,env)
 | .l ops (o::l) k=>match lB t n ops st env o with
  |some env'=>some (.l ops l k,env')
  |none=>none
def mc(t:Ty)(n:Nat)(st:List AO):Nat->SS->Env->Option (SS×Env)
 |0,s,env=>some (s,env)
 |k+1,s,env=>match pQ t n st env s with
  |some (s',env')=>mc t n st k s' env'
  |none=>none
section
variable{P:Program}{t:Ty}(ht:t.ok P=true){e:En}{st:List AO}
include ht
theorem uL{env env':Env}{s s':SS}(h:pQ t e.n st env s=some (s',env'))(k:s'.den P e env' st):s.den P e env st:=by
 cases s with
 |c c κ=>
  dsimp only[pQ] at h;split at h;rename_i s1 hc;obtain⟨rfl,rfl⟩:=Prod.mk.inj (inS h);cases c with
  |seq x y=>obtain rfl:=inS hc;exact yi k
  |skip=>obtain rfl:=inS hc;exact wB k
  |ret=>obtain rfl:=inS hc;exact yj k
  |exit i=>obtain rfl:=inS hc;exact wC k
  |block i x=>obtain rfl:=inS hc;exact uF k
  |region i a b=>
   cases b with
   |true=>cases hc
   |false=>
    dsimp only[ctlC] at hc;cases hb:c9 a.toList with
    |false=>grind
    |true=>rw[hb] at hc;obtain rfl:=inS hc;exact tD (l:=a.toList) k hb
  |_=>cases hc
  cases h
 |x x κ=>dsimp only[pQ] at h;split at h;rename_i s1 hc;obtain⟨rfl,rfl⟩:=Prod.mk.inj (inS h);unfold ctlX at hc;split at hc;grind [uE];grind [rb];grind [pJ];grind [yh];grind [rh];grind [nbE,ri,pK];grind [tC];grind [rf];cases hc;cases h
 |l ops l κ=>
  cases l with
  |nil=>obtain⟨rfl,rfl⟩:=Prod.mk.inj (inS h);exact WL.nil k
  |cons o l=>grind [pQ,jX]
theorem eU:∀{k:Nat}{s s':SS}{env env':Env},mc t e.n st k s env=some (s',env')->s'.den P e env' st->s.den P e env st
 |0,s,s',env,env',h,k=>by obtain⟨rfl,rfl⟩:=Prod.mk.inj (inS h);exact k
 |j+1,s,s',env,env',h,k=>by
  unfold mc at h;split at h;rename_i hs;exact uL ht hs (eU h k);cases h
end
section
variable{P:Program}[T:Tys P]{e:En}{st:List AO}{env env':Env}{κ κ':Ko}
theorem Rcc{c:Code}{c':Code}(k:Nat)(h:mc T.t e.n st k (.c c κ) env=some ((.c c' κ'),env'))(hw:WC P e c' κ' env' st):WC P e c κ env st:=eU (s:=(.c c κ)) T.h h hw
theorem Rcx{c:Code}{x':Exit}(k:Nat)(h:mc T.t e.n st k (.c c κ) env=some ((.x x' κ'),env'))(hw:WE P e x' κ' env' st):WC P e c κ env st:=eU (s:=(.c c κ)) T.h h hw
theorem Rcl{c:Code}{ops':Array Oper}{l':List Oper}(k:Nat)(h:mc T.t e.n st k (.c c κ) env=some ((.l ops' l' κ'),env'))(hw:WL P e ops' l' env' st λenv' st'=>WE P e .normal κ' env' st'):WC P e c κ env st:=eU (s:=(.c c κ)) T.h h hw
theorem Rxc{x:Exit}{c':Code}(k:Nat)(h:mc T.t e.n st k (.x x κ) env=some ((.c c' κ'),env'))(hw:WC P e c' κ' env' st):WE P e x κ env st:=eU (s:=(.x x κ)) T.h h hw
theorem Rxx{x:Exit}{x':Exit}(k:Nat)(h:mc T.t e.n st k (.x x κ) env=some ((.x x' κ'),env'))(hw:WE P e x' κ' env' st):WE P e x κ env st:=eU (s:=(.x x κ)) T.h h hw
theorem Rxl{x:Exit}{ops':Array Oper}{l':List Oper}(k:Nat)(h:mc T.t e.n st k (.x x κ) env=some ((.l ops' l' κ'),env'))(hw:WL P e ops' l' env' st λenv' st'=>WE P e .normal κ' env' st'):WE P e x κ env st:=eU (s:=(.x x κ)) T.h h hw
theorem Rlc{ops:Array Oper}{l:List Oper}{c':Code}(k:Nat)(h:mc T.t e.n st k (.l ops l κ) env=some ((.c c' κ'),env'))(hw:WC P e c' κ' env' st):WL P e ops l env st (λenv' st'=>WE P e .normal κ env' st'):=eU (s:=(.l ops l κ)) T.h h hw
theorem Rlx{ops:Array Oper}{l:List Oper}{x':Exit}(k:Nat)(h:mc T.t e.n st k (.l ops l κ) env=some ((.x x' κ'),env'))(hw:WE P e x' κ' env' st):WL P e ops l env st (λenv' st'=>WE P e .normal κ env' st'):=eU (s:=(.l ops l κ)) T.h h hw
theorem Rll{ops:Array Oper}{l:List Oper}{ops':Array Oper}{l':List Oper}(k:Nat)(h:mc T.t e.n st k (.l ops l κ) env=some ((.l ops' l' κ'),env'))(hw:WL P e ops' l' env' st λenv' st'=>WE P e .normal κ' env' st'):WL P e ops l env st (λenv' st'=>WE P e .normal κ env' st'):=eU (s:=(.l ops l κ)) T.h h hw
end
end Go.Sk
namespace Go.Sk
open Go.RowKit (Below)
open Go.MapKept (IsKey sameNow_of_keys run_checkKey run_findKey run_keyThatStays)
def ixL{κ:Type}[DecidableEq κ]:List κ->κ->Option Nat
 |[],_=>none
 |a::l,k=>if a=k then some 0 else(ixL l k).map (·+1)
structure KeyX(P:Program){κ:Type}[DecidableEq κ](kt:TypeId)(kf:κ->Value):Prop where
 chk:∀em k w,(Instr.checkKey em 10000 kt (kf k)).run P w= .ok () w
 find:∀(k:κ)(L:List κ)(l:List MapEntry)(w:World),l.map (·.key)=L.map kf->(Instr.findKey kt (kf k) l).run P w= .ok ((ixL L k).bind λj=>(l[j]?).map λe=>(j,e.val)) w
 stays:∀k w,(Instr.keyThatStays (kf k) (kf k)).run P w= .ok (kf k) w
section
variable{κ:Type}[DecidableEq κ]{P:Program}{d:TypeDesc}{kt:TypeId}{kf:κ->Value}
end
inductive KDk where
 |i(k:IntKind)
 |p(k1 k2:IntKind)
def rgX(P:Program)(env:Env)(st:List AO)(T:TypeId)(x:Operand):Option (AV×List AO):=
 match P.underlying T,opv env x with
 |some (.map _ _),some (.mp id)=>(match st[id]? with
  |some (.mb _ _ cl)=>some (.pt st.length 0,st++ [.it (.mp id) cl [] cl])
  |_=>none)
 |some (.map _ _),some (.d (.v (.map none)))=>some (.pt st.length 0,st++ [.it (.d (.v (.map none))) 0 [] 0])
 |_,_=>none
def mV(es:List (Value×Nat))(s:Nat):Option Nat:=match es with
 |[]=>none
 |p::l=>bif Nat.beq p.2 s then some 0 else(match mV l s with
  |some j=>some (j+1)
  |none=>none)
def enX(env:Env)(st:List AO)(x:Operand):Option AV:=match opv env x with
 |some (.pt iid 0)=>(match st[iid]? with
  |some (.it (.mp id) _ seen stp)=>(match seen.getLast?,st[id]? with
   |some s,some (.mb es xs cl)=>bif Nat.beq cl stp then(match mV es s with
    |some j=>(match es[j]?,xs[j]? with
     |some p,some r=>some (.tu [gc p.1,r])
     |_,_=>none)
    |none=>none) else none
   |_,_=>none)
  |_=>none)
 |_=>none
def mD(iid id since stp cl:Nat)(seen:List Nat)(es:List (Value×Nat))(xs:List AV)(st:List AO):List (AV×List AO):=
 (bif es.all (λp=>seen.contains p.2|| !(Nat.blt p.2 since)) then[(.tu [.d (.v (.bool false))],st)] else[])++
 (List.zip es xs).filterMap λp=>bif seen.contains p.1.2 then none else some (.tu [.d (.v (.bool true)),gc p.1.1,p.2],st.set iid (.it (.mp id) since (seen++ [p.1.2]) cl))
section
variable{P:Program}{env:Env}{st:List AO}{dst:Option Tmp}{ty:TypeId}{pos:String}{after:Array Edge}{guard:Option (Nat×Bool)}
end
end Go.Sk
namespace Go.Sk
open Go.RowKit (Below)
section
variable{P:Program}{env:Env}{st:List AO}{dst:Option Tmp}{ty:TypeId}{pos:String}{after:Array Edge}{guard:Option (Nat×Bool)}
theorem yo{T:TypeId}{x:Operand}{r:AV}{st':List AO}(h:rgX P env st T x=some (r,st')):fP P env st ⟨dst, .range T x,ty,pos,after,guard⟩ r st':=λm φ a w hs he=>by
 have hnew:∀b,(Cz.blk w.heap.size).has b->w.heap.size<=b:=by grind [Cz.has]
 unfold rgX at h;split at h;rename_i kt et id hT hx;split at h;rename_i es xs cl hst;obtain⟨rfl,rfl⟩:=h;have hra:=bv he hx;obtain⟨b,h1,h2⟩:=gk he hx;obtain⟨b',hbb,h0,l,g1,g2,g3⟩:=hs.obj id _ _ hst h1;simp only[Cz.blk.injEq] at hbb;subst hbb;have hF:=Fz.alloc hs (.mapIter (some b) cl #[] cl);have hk:∀c,c<w.heap.size->(w.alloc (.mapIter (some b) cl #[] cl)).heap[c]? =w.heap[c]? :=λc hc=>bX hc;rw[h2] at hra;refine⟨.pointer (some ⟨w.heap.size,0,none⟩),w.alloc (.mapIter (some b) cl #[] cl),m++ [.blk w.heap.size],φ, .inl ?_,Ev.push hs hF hk sM rfl rfl rfl hnew,SR.push hs hF hk sM ⟨_,rfl,hs.lt _ (Nat.le_refl _),some b,heap_alloc_new w _,RA.mono (Pre.append m _) hF _ _ hra⟩ hnew,?_⟩;simp[execOp,h2,Instr.range,run_underlying hT,MapKept.run_getObj_map g1];simp only[RA];exact⟨_,by rw[<-hs.len];simp,rfl⟩;cases h;rename_i kt et hT hx;obtain⟨rfl,rfl⟩:=h;have h2:=bt he hx;have hF:=Fz.alloc hs (.mapIter none 0 #[] 0);have hk:∀c,c<w.heap.size->(w.alloc (.mapIter none 0 #[] 0)).heap[c]? =w.heap[c]? :=λc hc=>bX hc;refine⟨.pointer (some ⟨w.heap.size,0,none⟩),w.alloc (.mapIter none 0 #[] 0),m++ [.blk w.heap.size],φ, .inl ?_,Ev.push hs hF hk sM rfl rfl rfl hnew,SR.push hs hF hk sM ⟨_,rfl,hs.lt _ (Nat.le_refl _),none,heap_alloc_new w _,RAv⟩ hnew,?_⟩;simp[execOp,h2,Instr.range,run_underlying hT];simp only[RA];exact⟨_,by rw[<-hs.len];simp,rfl⟩;cases h
theorem mU{s:Nat}:∀{es:List (Value×Nat)}{l:List MapEntry}{j:Nat},l.map (λe=>(e.key,e.born))=es->mV es s=some j->∃e,l[j]? =some e/\l.find? (·.born==s)=some e
 |[],l,j,_,h=>by cases h
 |p::es,[],j,hl,h=>by simp at hl
 |p::es,e::l,j,hl,h=>by
  simp only[List.map_cons,List.cons.injEq] at hl;obtain⟨rfl,hl⟩:=hl;unfold mV at h;cases hb:Nat.beq e.born s with
  |true=>rw[hb] at h;obtain rfl:=inS h;simp_all
  |false=>rw[hb,cdF] at h;split at h;rename_i i hi;obtain rfl:=inS h;obtain⟨e',h1,h2⟩:=mU hl hi;refine⟨e',by simpa using h1,?_⟩;rw[List.find?_cons_of_neg (by intro hh;rw[beq_iff_eq] at hh;rw[hh] at hb;simp at hb)];exact h2;cases h
theorem yI{x:Operand}{r:AV}(h:enX env st x=some r):Yields P env st ⟨dst, .entry x,ty,pos,after,guard⟩ r:=λm φ a w hs he=>by
 unfold enX at h;split at h;rename_i iid hx;split at h;rename_i id since seen stp hit;split at h;rename_i s es xs cl hseen hmb;cases hc:Nat.beq cl stp with
 |false=>grind
 |true=>
  rw[hc,cdT] at h;have hc:=nbE hc;subst hc;split at h;rename_i j hj;split at h;rename_i p r0 hp hr0;obtain rfl:=inS h;obtain⟨b,g1,g2⟩:=fG he hx;obtain⟨b',hbb,h0,sb,g3,g4⟩:=hs.obj iid _ _ hit g1;simp only[Cz.blk.injEq] at hbb;subst hbb;obtain⟨mb,g5,g6⟩:=g4;simp only[Value.map.injEq] at g6;subst g6;obtain⟨b2,hb2,q0,l,q1,q2,q3⟩:=hs.obj id _ _ hmb g5;simp only[Cz.blk.injEq] at hb2;subst hb2;obtain⟨e,k1,k2⟩:=mU q2 hj;have hpe:p=(e.key,e.born):=by grind
  subst hpe;obtain⟨v,v1,v2⟩:=cP q3 hr0;rw[List.getElem?_map,k1,Option.map_some,aK] at v1;subst v1;refine⟨.tuple #[e.key,e.val],by simp only[RA];exact⟨_,rfl,bp (nf _) (bp v2 cD)⟩,λw' hb=>?_⟩;have e1:w'.heap[b]? =some (.mapIter (some mb) since ⟨seen⟩ cl):=by rw[hb.block b (cK g3)];exact g3
  have e2:w'.heap[mb]? =some (.map ⟨l⟩ cl):=by rw[hb.block mb (cK q1)];exact q1
  have f1:(getObj b).run P w'= .ok (.mapIter (some mb) since ⟨seen⟩ cl) w':=by simp[getObj,Sem.run,e1]
  have f2:(getObj mb).run P w'= .ok (.map ⟨l⟩ cl) w':=by simp[getObj,Sem.run,e2]
  have f3:(⟨seen⟩:Array Nat).back? =some s:=by simp_all
  simp_all [execOp,Instr.entry];cases h;cases h
 cases h;cases h;cases h
def DoesN(P:Program)(env:Env)(st:List AO)(o:Oper)(outs:List (AV×List AO)):Prop:=
 ∀m φ a w,SR m φ st w->EnvOk m φ w env a->∃v w' m' φ' p,p∈outs/\(execOp a.eval o).run P w= .ok (.value v) w'/\Ev m φ w m' φ' w'/\SR m' φ' p.2 w'/\RA m' φ' w' p.1 v
theorem SR.drew{m:List Cz}{φ:Nat->Nat}{w:World}(hs:SR m φ st w):SR m φ st w.drew:=hs.of_keep (λ_ _=>⟨rfl,rfl⟩) (λ_ _ _ h1 h2=>⟨h1,h2⟩) hs.lt
theorem itSet{m φ w}{iid b since stp stp':Nat}{seen seen':List Nat}{src:AV}{sb:Option Nat}(hs:SR m φ st w)(hi:st[iid]? =some (.it src since seen stp))(hb:m[iid]? =some (.blk b))(hsrc:RA m φ w src (.map sb)):
  Ev m φ w m φ { w with heap:=w.heap.setIfInBounds b (.mapIter sb since ⟨seen'⟩ stp') }/\SR m φ (st.set iid (.it src since seen' stp')) { w with heap:=w.heap.setIfInBounds b (.mapIter sb since ⟨seen'⟩ stp') }:=by
 obtain⟨b',hbb,h0,sb0,h1,h2⟩:=hs.obj iid _ _ hi hb;simp only[Cz.blk.injEq] at hbb;subst hbb;have hlt:=cK h1;have hne:∀b2,b2≠b->(w.heap.setIfInBounds b (.mapIter sb since ⟨seen'⟩ stp'))[b2]? =w.heap[b2]? :=by grind
 have hF:Fz φ w φ { w with heap:=w.heap.setIfInBounds b (.mapIter sb since ⟨seen'⟩ stp') }:=λb2 off c g1 g2=>⟨g1,by
  have hn:b2≠b:=λe=>by subst e;omega
  rw[bx (w':={ w with heap:=w.heap.setIfInBounds b (.mapIter sb since ⟨seen'⟩ stp') }) (hne b2 hn)];exact g2⟩
 have hset:m.set iid (.blk b)=m:=by apply List.ext_getElem?;grind
 have:=fY (w':={ w with heap:=w.heap.setIfInBounds b (.mapIter sb since ⟨seen'⟩ stp') }) (φ':=φ) (o':= .it src since seen' stp') (c':= .blk b) hs hi rfl hb rfl rfl rfl rfl sM (λb2 hb2 hn=>⟨hne b2 (λe=>hn (by rw[e];rfl)),rfl⟩) hF (λb2 hb2=>hs.lt b2 (by simpa using hb2)) (λb2 hb2=> .inl hb2)
  (by rw[hset];exact⟨b,rfl,h0,sb,by simp[hlt],RA.mono (Pre.refl m) hF _ _ hsrc⟩)
 rwa [hset] at this
theorem ru{w:World}{n:Nat}(hn:0<n):∃j w1,j<n/\(w1=w\/w1=w.drew)/\(choose (.mapNext n)).run P w= .ok j w1:=by
 by_cases hf:n<=1;exact⟨0,w,oM, .inl rfl,by simp[choose,Sem.run,Question.forced,hf]⟩;exact⟨_,w.drew,Nat.mod_lt _ oM, .inr rfl,by
  simp only[choose,Sem.run,Question.forced,decide_eq_true_eq,hf,if_false,Question.cut];rfl⟩
theorem nx_ok{x:Operand}{iid id since stp cl:Nat}{seen:List Nat}{es:List (Value×Nat)}{xs:List AV}(hx:opv env x=some (.pt iid 0))(hit:st[iid]? =some (.it (.mp id) since seen stp))(hmb:st[id]? =some (.mb es xs cl))
  (ht:(!seen.isEmpty&&(!es.isEmpty&&es.all λp=>Nat.ble stp p.2))=false):DoesN P env st ⟨dst, .next x false,ty,pos,after,guard⟩ (mD iid id since stp cl seen es xs st):=λm φ a w hs he=>by
 obtain⟨b,g1,g2⟩:=fG he hx;obtain⟨b',hbb,h0,sb,g3,g4⟩:=hs.obj iid _ _ hit g1;simp only[Cz.blk.injEq] at hbb;subst hbb;have g4':=g4;simp only[RA] at g4;obtain⟨mb,g5,g6⟩:=g4;simp only[Value.map.injEq] at g6;subst g6;obtain⟨b2,hb2,q0,l,q1,q2,q3⟩:=hs.obj id _ _ hmb g5;simp only[Cz.blk.injEq] at hb2;subst hb2;have f1:(getObj b).run P w= .ok (.mapIter (some mb) since ⟨seen⟩ stp) w:=by simp[getObj,Sem.run,g3]
 have f2:(getObj mb).run P w= .ok (.map ⟨l⟩ cl) w:=by simp[getObj,Sem.run,q1]
 have f3:(!(⟨seen⟩:Array Nat).isEmpty&& !(⟨l⟩:Array MapEntry).isEmpty&&(⟨l⟩:Array MapEntry).all (λx=>decide (x.born>=stp)))=false:=by
  rw[<-q2] at ht;rw[<-ht];have hb:∀e:MapEntry,decide (e.born>=stp)=Nat.ble stp e.born:=λe=>by rw[Bool.eq_iff_iff];simp[Nat.ble_eq]
  simp[List.all_map,Bool.and_assoc,Function.comp_def,hb]
 have hlen:es.length=l.length:=by rw[<-q2,List.length_map]
 have hout:∀e∈l,seen.contains e.born=false->∃r,RA m φ w r e.val/\(AV.tu [.d (.v (.bool true)),gc e.key,r],st.set iid (.it (.mp id) since (seen++ [e.born]) cl))∈mD iid id since stp cl seen es xs st:=λe he hse=>by
  obtain⟨j,hj⟩:=List.mem_iff_getElem?.1 he;have hxl:xs.length=l.length:=by have:=aL q3;rw[List.length_map] at this;exact this.symm
  have hjl:j<xs.length:=by rw[hxl];exact(giS.1 hj).1
  have hx0:xs[j]? =some xs[j]:=geG hjl;obtain⟨v,v1,v2⟩:=cP q3 hx0;rw[List.getElem?_map,hj,Option.map_some,aK] at v1;subst v1;refine⟨xs[j],v2,List.mem_append_right _ (List.mem_filterMap.2 ⟨((e.key,e.born),xs[j]),?_,by rw[hse];rfl⟩)⟩;refine List.mem_iff_getElem?.2 ⟨j,?_⟩;rw[List.getElem?_zip_eq_some];exact⟨by rw[<-q2,List.getElem?_map,hj];rfl,hx0⟩
 have hover:(∀e∈l,seen.contains e.born=false->¬e.born<since)->(AV.tu [.d (.v (.bool false))],st)∈mD iid id since stp cl seen es xs st:=λh=>by
  have:es.all (λp=>seen.contains p.2|| !(Nat.blt p.2 since))=true:=by
   rw[<-q2,List.all_map,List.all_eq_true];intro e he;show(seen.contains e.born|| !(Nat.blt e.born since))=true;cases hse:seen.contains e.born with
   |true=>rfl
   |false=>
    have h1:=h e he hse;cases hb:Nat.blt e.born since with
    |false=>rfl
    |true=>exact absurd (by simpa[Nat.blt_eq] using hb) h1
  unfold mD;rw[this];simp
 have hrun:(execOp a.eval ⟨dst, .next x false,ty,pos,after,guard⟩).run P w=(((Instr.next (.pointer (some ⟨b,0,none⟩)) false ty).run P w).andThen λv w'=> .ok (.value v) w'):=by simp[execOp,g2]
 rw[hrun];simp only[Instr.next,Sem.run_bind,f1,f2,Result.andThen_ok,f3,Bool.false_eq_true,if_false];generalize hL:Array.filter (λe:MapEntry=> !(⟨seen⟩:Array Nat).contains e.born) ⟨l⟩=L;have hLm:∀e:MapEntry,e∈L↔e∈l/\seen.contains e.born=false:=λe=>by
  rw[<-hL,Array.mem_filter];simp
 generalize hC:((if(Array.filter (λx:MapEntry=>decide (x.born<since)) L).isEmpty=true then #[none] else #[])++Array.map some (Array.filter (λx:MapEntry=>decide (x.born<since)) L++Array.filter (λx:MapEntry=>decide (x.born>=since)) L):Array (Option MapEntry))=C;have hsome:∀e:MapEntry,some e∈C->e∈L:=λe he=>by
  rw[<-hC] at he;rcases Array.mem_append.1 he with he|he
  split at he<;>simp at he;obtain⟨e',h1,h2⟩:=Array.mem_map.1 he;obtain rfl:=inS h2;rcases Array.mem_append.1 h1 with h1|h1<;>exact(Array.mem_filter.1 h1).1
 have hnone:none∈C->∀e∈L,¬e.born<since:=λhe e hel hlt=>by
  rw[<-hC] at he;rcases Array.mem_append.1 he with he|he
  split at he;rename_i hemp;have:e∈Array.filter (λx:MapEntry=>decide (x.born<since)) L:=Array.mem_filter.2 ⟨hel,dcT hlt⟩;rw[Array.isEmpty_iff.1 hemp] at this;simp at this;simp at he;obtain⟨e',_,h2⟩:=Array.mem_map.1 he;cases h2
 have hpos:0<C.size:=by rw[<-hC,Array.size_append,Array.size_map,Array.size_append];split;simp;omega;rename_i hemp;have:(Array.filter (λx:MapEntry=>decide (x.born<since)) L).size≠0:=λh0=>hemp (by rw[Array.eq_empty_of_size_eq_zero h0];rfl);omega
 obtain⟨j,w1,hj,hal,hrun1⟩:=ru (P:=P) (w:=w) hpos;have hget:C[j]? =some C[j]:=Array.getElem?_eq_getElem hj;have hmem:C[j]∈C:=Array.getElem_mem hj;have hs1:SR m φ st w1:=by rcases hal with rfl|rfl;exact hs;exact hs.drew
 have hev1:∀{w2:World},Ev m φ w1 m φ w2->Ev m φ w m φ w2:=λ{w2} k=>by
  rcases hal with rfl|rfl
  exact k;exact⟨k.pre,k.new,k.os,k.tape,k.output,k.size,k.keep,k.fz⟩
 simp only[hrun1,Result.andThen_ok,hget];cases hcj:C[j] with
 |none=>rw[hcj] at hmem;exact⟨.tuple #[.bool false],w1,m,φ,_,hover (λe he hse=>hnone hmem e ((hLm e).2 ⟨he,hse⟩)),sM,hev1 (Ev.refl m φ w1),hs1,by simp[RA,RAs,RD]⟩
 |some e=>
  rw[hcj] at hmem;obtain⟨hel,hes⟩:=(hLm e).1 (hsome e hmem);obtain⟨r,hr1,hr2⟩:=hout e hel hes;obtain⟨k1,k2⟩:=itSet (seen':=seen++ [e.born]) (stp':=cl) hs1 hit g1 g4';have hb1:w1.heap[b]? =some (.mapIter (some mb) since ⟨seen⟩ stp):=by rcases hal with rfl|rfl<;>exact g3
  have hset:(setObj b (Obj.mapIter (some mb) since ((⟨seen⟩:Array Nat).push e.born) cl)).run P w1= .ok () { w1 with heap:=w1.heap.setIfInBounds b (.mapIter (some mb) since ⟨seen++ [e.born]⟩ cl) }:=by simp[setObj,Sem.run,hb1]
  refine⟨.tuple #[.bool true,e.key,e.val],_,m,φ,_,hr2,?_,hev1 k1,k2,?_⟩;simp only[Sem.run_bind,hset,Result.andThen_ok,Sem.run_pure];have h1:=RA.mono (hev1 k1).pre (hev1 k1).fz _ _ hr1;simp only[RA];exact⟨_,rfl,bp RAv (bp (nf _) (bp h1 cD))⟩
end
end Go.Sk
namespace Go.Sk
open Go.RowKit (Below)
def ed{ε σ:Type}(step:ε->σ->Option σ):List ε->σ->Option σ
 |[],s=>some s
 |x::l,s=>(step x s).bind (ed step l)
def AllO{ε σ β:Type}(L:List ε)(step:ε->σ->Option σ)(K:σ->Option β)(s:σ)(r:β):Prop:=∀l,l.Perm L->(ed step l s).bind K=some r
open Classical in
noncomputable def gJ{ε σ β:Type}(L:List ε)(step:ε->σ->Option σ)(K:σ->Option β)(s:σ):Option β:=if h:∃r,AllO L step K s r then some h.choose else none
theorem mw{ε σ β:Type}{L:List ε}{step:ε->σ->Option σ}{K:σ->Option β}{s:σ}{r:β}(h:gJ L step K s=some r):AllO L step K s r:=by unfold gJ at h;split at h;grind;cases h
theorem tN{ε σ β:Type}{L:List ε}{step:ε->σ->Option σ}{K:σ->Option β}{s:σ}{r:β}(h:AllO L step K s r):gJ L step K s=some r:=by have h':∃r,AllO L step K s r:=⟨r,h⟩;have h2:=h'.choose_spec L (List.Perm.refl L);unfold gJ;rw[dif_pos h',<-h2];exact h L (List.Perm.refl L)
theorem AllO.nil{ε σ β:Type}{step:ε->σ->Option σ}{K:σ->Option β}{s:σ}{r:β}(h:AllO [] step K s r):K s=some r:=h [] (List.Perm.refl _)
theorem AllO.cons{ε σ β:Type}{L R:List ε}{x:ε}{step:ε->σ->Option σ}{K:σ->Option β}{s:σ}{r:β}(h:AllO R step K s r)(hp:R.Perm (x::L)):∃s1,step x s=some s1/\AllO L step K s1 r:=by
 cases hs:step x s with
 |none=>have:=h (x::L) hp.symm;grind [ed]
 |some s1=>refine⟨s1,rfl,λl hl=>?_⟩;have:=h (x::l) ((hl.cons x).trans hp.symm);grind [ed]
def lG{ε:Type}(L:List ε)(seen:List Nat):List ε:=(L.zipIdx.filter λp=> !seen.contains p.2).map (·.1)
theorem nS{ε:Type}(L:List ε):lG L []=L:=by simp_all [lG,List.filter_eq_self.2]
theorem tL{ε:Type}{L:List ε}{seen:List Nat}(h:∀j,j<L.length->j∈seen):lG L seen=[]:=by grind [lG,List.filter_eq_nil_iff.2]
theorem rD{ε:Type}{L:List ε}{seen:List Nat}{j:Nat}{x:ε}(hx:L[j]? =some x)(hj:j∉seen):(lG L seen).Perm (x::lG L (seen++ [j])):=by
 have key:∀(l:List (ε×Nat)),(l.map (·.2)).Nodup->(x,j)∈l->(l.filter λp=> !seen.contains p.2).Perm ((x,j)::l.filter λp=> !(seen++ [j]).contains p.2):=by
  intro l;induction l with
  |nil=>intro _ h;cases h
  |cons p l ih=>
   intro hn hm;rw[List.map_cons,List.nodup_cons] at hn;rcases List.mem_cons.1 hm with rfl|hm
   have e1:(!seen.contains (x,j).2)=true:=by simp[hj]
   have e2:(!(seen++ [j]).contains (x,j).2)=false:=sM;rw[List.filter_cons,if_pos e1,List.filter_cons,if_neg (by rw[e2];decide)];have:(l.filter λp=> !seen.contains p.2)=l.filter λp=> !(seen++ [j]).contains p.2:=by grind [List.filter_congr]
   rw[this];have hp:p.2≠j:=λe=>hn.1 (by rw[e];exact List.mem_map_of_mem (f:=Prod.snd) hm);have e:(!(seen++ [j]).contains p.2)= !seen.contains p.2:=by simp[hp]
   have ih:=ih hn.2 hm;rw[List.filter_cons,List.filter_cons,e];split;exact(ih.cons p).trans (List.Perm.swap _ _ _);exact ih
 have hm:(x,j)∈L.zipIdx:=by grind
 have hn:(L.zipIdx.map (·.2)).Nodup:=by
  have:L.zipIdx.map (·.2)=List.range L.length:=by apply List.ext_getElem?;grind
  grind
 exact(key _ hn hm).map (·.1)
theorem SR.swap{m:List Cz}{φ:Nat->Nat}{w:World}{st:List AO}{id:Nat}{o o':AO}(hs:SR m φ st w)(hi:st[id]? =some o)(hl:o.live=true)(h:∀c,OR m φ w o c->OR m φ w o' c):SR m φ (st.set id o') w:=by
 have hlt:=(giS.1 hi).1;refine⟨by rw[List.length_set];exact hs.len,λi x c h1 h2=>?_,hs.lt,λi j x x' c c' b h1 h2 l1 l2 g1 g2 b1 b2=>?_,hs.gl,hs.nb⟩;by_cases hii:id=i;subst hii;rw[List.getElem?_set_self hlt,aK] at h1;subst h1;exact h c (hs.obj _ _ _ hi h2);rw[List.getElem?_set_ne hii] at h1;exact hs.obj _ _ _ h1 h2;have old:∀(i:Nat)(x:AO),(st.set id o')[i]? =some x->x.live=true->∃y,st[i]? =some y/\y.live=true:=λi x hx hlx=>by
  grind
 obtain⟨y,e1,e2⟩:=old i x h1 l1;obtain⟨y',e3,e4⟩:=old j x' h2 l2;exact hs.inj i j y y' c c' b e1 e3 e2 e4 g1 g2 b1 b2
section
variable{κ α:Type}
def cN(kf:κ->Value)(L:List (κ×α)):List (Value×Nat):=(L.map λp=>kf p.1).zipIdx
theorem u7{m φ w}(kf:κ->Value)(g:α->AV)(L:List (κ×α))(c:Cz)(h:OR m φ w (mpO kf g L) c):OR m φ w (.mb (cN kf L) (L.map λp=>g p.2) L.length) c:=by
 obtain⟨b,h1,h2,l,cl,h3,h4,h5,h6,h7⟩:=h;have hlen:l.length=L.length:=by have:=congrArg List.length h4;simpa using this
 subst h6;refine⟨b,h1,h2,l,by rw[<-hlen];exact h3,?_,by simpa[List.map_map,Function.comp_def] using h5⟩;apply List.ext_getElem?;intro i;have k1:(l.map (·.key))[i]? =(L.map λp=>kf p.1)[i]? :=by grind
 have k2:(l.map (·.born))[i]? =(List.range l.length)[i]? :=by rw[h7]
 rw[List.getElem?_map] at k1 k2⊢;grind [cN]
theorem vd{m φ w}(kf:κ->Value)(g:α->AV)(L:List (κ×α))(c:Cz)(h:OR m φ w (.mb (cN kf L) (L.map λp=>g p.2) L.length) c):OR m φ w (mpO kf g L) c:=by
 obtain⟨b,h1,h2,l,h3,h4,h5⟩:=h;have hlen:l.length=L.length:=by have:=congrArg List.length h4;simpa[cN] using this
 refine⟨b,h1,h2,l,L.length,h3,?_,by simpa[List.map_map,Function.comp_def] using h5,hlen.symm,?_⟩;have:=congrArg (List.map Prod.fst) h4;simpa[List.map_map,Function.comp_def,cN] using this;have:=congrArg (List.map Prod.snd) h4;simp only[List.map_map,Function.comp_def] at this;rw[hlen];refine this.trans ?_;unfold cN;apply List.ext_getElem?;grind
theorem oL{st:List AO}{id:Nat}{o:AO}(h:st[id]? =some o)(o':AO):(st.set id o').set id o=st:=by rw[List.set_set];apply List.ext_getElem?;grind
variable{P:Program}{env:Env}{st:List AO}{dst:Option Tmp}{ty:TypeId}{pos:String}{after:Array Edge}{guard:Option (Nat×Bool)}
theorem qC{T kt et:TypeId}{x:Operand}{id:Nat}(kf:κ->Value)(g:α->AV)(L:List (κ×α))(hT:P.underlying T=some (.map kt et))(hx:opv env x=some (.mp id))(hi:st[id]? =some (mpO kf g L)):
  fP P env st ⟨dst, .range T x,ty,pos,after,guard⟩ (.pt st.length 0) (st++ [.it (.mp id) L.length [] L.length]):=λm φ a w hs he=>by
 have hlt:=(giS.1 hi).1;have hs':=hs.swap hi rfl (u7 kf g L);have h1:rgX P env (st.set id (.mb (cN kf L) (L.map λp=>g p.2) L.length)) T x=some (.pt st.length 0,st.set id (.mb (cN kf L) (L.map λp=>g p.2) L.length)++ [.it (.mp id) L.length [] L.length]):=by grind [rgX]
 obtain⟨v,w',m',φ',k1,k2,k3,k4⟩:=yo (dst:=dst) (ty:=ty) (pos:=pos) (after:=after) (guard:=guard) h1 m φ a w hs' he;refine⟨v,w',m',φ',k1,k2,?_,k4⟩;have hg:(st.set id (.mb (cN kf L) (L.map λp=>g p.2) L.length)++ [.it (.mp id) L.length [] L.length])[id]? =some (.mb (cN kf L) (L.map λp=>g p.2) L.length):=by grind
 have:=k3.swap hg rfl (vd kf g L);grind [oL]
theorem pG{x:Operand}{iid id N:Nat}{seen:List Nat}{j:Nat}(kf:κ->Value)(g:α->AV)(L:List (κ×α)){p:κ×α}(hx:opv env x=some (.pt iid 0))(hit:st[iid]? =some (.it (.mp id) N (seen++ [j]) N))(hi:st[id]? =some (mpO kf g L))(hN:N=L.length)(hj:L[j]? =some p):
  Yields P env st ⟨dst, .entry x,ty,pos,after,guard⟩ (.tu [gc (kf p.1),g p.2]):=λm φ a w hs he=>by
 subst hN;have hlt:=(giS.1 hi).1;have hne:id≠iid:=by grind
 have hs':=hs.swap hi rfl (u7 kf g L);have hjl:j<L.length:=by grind
 have hb:∀(es:List (Value×Nat))(k n:Nat),(∀i,i<es.length->(es[i]?).map (·.2)=some (k+i))->n<es.length->mV es (k+n)=some n:=by
  intro es;induction es with
  |nil=>simp_all
  |cons e es ih=>
   intro k n h hn;unfold mV;have h0:=h 0 sM;simp only[List.getElem?_cons_zero,Option.map_some,aK,Nat.add_zero] at h0;cases n with
   |zero=>grind [Nat.beq_refl]
   |succ n=>
    have:Nat.beq e.2 (k+(n+1))=false:=by grind [nbE]
    rw[this,cdF,show k+(n+1)=(k+1)+n by omega,ih (k+1) n (λi hi=>by
     have:=h (i+1) (by simpa using hi);rw[List.getElem?_cons_succ] at this;rw[this];congr 1;omega) (by simpa using hn)]
 have hel:(cN kf L).length=L.length:=by simp[cN]
 have hej:(cN kf L)[j]? =some (kf p.1,j):=by grind [cN]
 have hbl:mV (cN kf L) j=some j:=by
  have:=hb (cN kf L) 0 j (λi hi=>by
   unfold cN;rw[hel] at hi;rw[List.getElem?_zipIdx,List.getElem?_map,geG hi];simp) (by rw[hel];exact hjl)
  grind
 refine yI (dst:=dst) (ty:=ty) (pos:=pos) (after:=after) (guard:=guard) (st:=st.set id (.mb (cN kf L) (L.map λp=>g p.2) L.length)) ?_ m φ a w hs' he;grind [enX,Nat.beq_refl]
theorem qM{e:En}{ops:Array Oper}{rest:List Oper}{o:Oper}{d:Nat}{x:Operand}{R:Env->List AO->Prop}{iid id N:Nat}{seen:List Nat}(kf:κ->Value)(g:α->AV)(L:List (κ×α))(hop:o.op= .next x false)(hx:opv env x=some (.pt iid 0))(hit:st[iid]? =some (.it (.mp id) N seen N))(hi:st[id]? =some (mpO kf g L))(hN:N=L.length)
  (hw:Wt ops env o true)(ho:o.dst=some d)(hd:Nat.ble (d+1) e.n=true)(h0:(∀j,j<L.length->j∈seen)->WL P e ops rest ((d, .tu [.d (.v (.bool false))])::env) st R)
  (h1:∀j p,L[j]? =some p->j∉seen->WL P e ops rest ((d, .tu [.d (.v (.bool true)),gc (kf p.1),g p.2])::env) (st.set iid (.it (.mp id) N (seen++ [j]) N)) R):WL P e ops (o::rest) env st R:=λm φ a w hinv=>by
 subst hN;have hlt:=(giS.1 hi).1;have hne:id≠iid:=λe=>by subst e;rw[hi] at hit;cases hit
 obtain⟨odst,oop,oty,opos,oaf,og⟩:=o;simp only at hop ho;subst hop;subst ho;have hs':=hinv.sr.swap hi rfl (u7 kf g L);have hel:(cN kf L).length=L.length:=by simp[cN]
 have hmem:∀q∈cN kf L,q.2<L.length:=λq hq=>by
  unfold cN at hq;have:=List.mem_zipIdx hq;simp at this;omega
 have ht:(!seen.isEmpty&&(!(cN kf L).isEmpty&&(cN kf L).all λp=>Nat.ble L.length p.2))=false:=by
  cases hE:cN kf L with
  |nil=>simp
  |cons q es=>
   have hq:=hmem q (by rw[hE];exact List.mem_cons_self);have:Nat.ble L.length q.2=false:=by
    cases hb:Nat.ble L.length q.2 with
    |false=>rfl
    |true=>have:=nbT hb;omega
   simp[this]
 have hit':(st.set id (.mb (cN kf L) (L.map λp=>g p.2) L.length))[iid]? =some (.it (.mp id) L.length seen L.length):=by rw[List.getElem?_set_ne hne];exact hit
 obtain⟨v,w',m',φ',p,hp,k1,k2,k3,k4⟩:=nx_ok (P:=P) (dst:=some d) (ty:=oty) (pos:=opos) (after:=oaf) (guard:=og) hx hit' (List.getElem?_set_self hlt) ht m φ a w hs' hinv.env;unfold eX;rw[if_pos (hw _ _ _ _ hinv.env)];refine .inl ?_;simp only[Oper.wp,k1,Oper.upon];unfold mD at hp;rcases List.mem_append.1 hp with hp|hp
 cases hall:(cN kf L).all (λp=>seen.contains p.2|| !(Nat.blt p.2 L.length)) with
 |false=>rw[hall] at hp;cases hp
 |true=>
  rw[hall,cdT,List.mem_singleton] at hp;subst hp;have hsr:SR m' φ' st w':=by have:=k3.swap (List.getElem?_set_self hlt) rfl (vd kf g L);rwa [oL hi] at this
  have hi':=hinv.ev_put (d:=d) k2 hsr (nbT hd) k4;refine h0 (λj hj=>?_) m' φ' _ w' hi';have hej:(cN kf L)[j]? =some (kf L[j].1,j):=by unfold cN;rw[List.getElem?_zipIdx,List.getElem?_map,geG hj];simp
  have:=List.all_eq_true.1 hall _ (List.mem_of_getElem? hej);have hb:Nat.blt j L.length=true:=by simp[Nat.blt_eq,hj]
  simpa[hb] using this
 obtain⟨q,hq,hqe⟩:=List.mem_filterMap.1 hp;obtain⟨j,hj⟩:=List.mem_iff_getElem?.1 hq;rw[List.getElem?_zip_eq_some] at hj;obtain⟨hj1,hj2⟩:=hj;have hjl:j<L.length:=by rw[<-hel];exact(giS.1 hj1).1
 have hej:(cN kf L)[j]? =some (kf L[j].1,j):=by unfold cN;rw[List.getElem?_zipIdx,List.getElem?_map,geG hjl];simp
 rw[hej,aK] at hj1;rw[List.getElem?_map,geG hjl,Option.map_some,aK] at hj2;obtain⟨⟨q1,q2⟩,q3⟩:=q;simp only[Prod.mk.injEq] at hj1;obtain⟨rfl,rfl⟩:=hj1;simp only at hj2 hqe;subst hj2;cases hse:seen.contains j with
 |true=>rw[hse] at hqe;cases hqe
 |false=>
  rw[hse,cdF,aK] at hqe;subst hqe;have hg:((st.set id (.mb (cN kf L) (L.map λp=>g p.2) L.length)).set iid (.it (.mp id) L.length (seen++ [j]) L.length))[id]? =some (.mb (cN kf L) (L.map λp=>g p.2) L.length):=by rw[List.getElem?_set_ne (Ne.symm hne),List.getElem?_set_self hlt]
  have hsr:SR m' φ' (st.set iid (.it (.mp id) L.length (seen++ [j]) L.length)) w':=by have:=k3.swap hg rfl (vd kf g L);rwa [List.set_comm _ _ (Ne.symm hne),oL hi] at this
  have hi':=hinv.ev_put (d:=d) k2 hsr (nbT hd) k4;exact h1 j L[j] (geG hjl) (by simpa using hse) m' φ' _ w' hi'
end
end Go.Sk
namespace Go.Sk
open Go.RowKit (Below)
open Go.MapKept (IsKey sameNow_of_keys run_getObj_map run_setObj_map run_checkKey run_findKey run_keyThatStays)
def AllN{ε σ β:Type}(L:List ε)(seen:List Nat)(step:ε->σ->Option σ)(K:σ->Option β)(s:σ)(r:β)(n:Nat):Prop:=AllO (lG L seen) step K s r/\(lG L seen).length<=n
theorem nl{ε σ β:Type}{L:List ε}{step:ε->σ->Option σ}{K:σ->Option β}{s:σ}{r:β}(h:gJ L step K s=some r):AllN L [] step K s r L.length:=by refine⟨?_,?_⟩;rw[nS];exact mw h;grind [nS]
theorem ov{ε σ β:Type}{L:List ε}{seen:List Nat}{step:ε->σ->Option σ}{K:σ->Option β}{s:σ}{r:β}{n:Nat}(h:AllN L seen step K s r n)(hs:∀j,j<L.length->j∈seen):K s=some r:=by have:=h.1;rw[tL hs] at this;exact this.nil
theorem AllN.pick{ε σ β:Type}{L:List ε}{seen:List Nat}{step:ε->σ->Option σ}{K:σ->Option β}{s:σ}{r:β}{n j:Nat}{x:ε}(h:AllN L seen step K s r n)(hx:L[j]? =some x)(hj:j∉seen):∃n' s1,n=n'+1/\step x s=some s1/\AllN L (seen++ [j]) step K s1 r n':=by have hp:=rD hx hj;obtain⟨s1,h1,h2⟩:=h.1.cons hp;have hl:=hp.length_eq;have h3:=h.2;rw[List.length_cons] at hl;exact⟨n - 1,s1,oM,h1,h2,oM⟩
section
variable{P:Program}{env:Env}{st:List AO}{dst:Option Tmp}{ty:TypeId}{pos:String}{after:Array Edge}{guard:Option (Nat×Bool)}
variable{κ α:Type}[DecidableEq κ]
theorem pB{T kt et:TypeId}{d:TypeDesc}{x ki:Operand}{id:Nat}(kf:κ->Value)(g:α->AV)(L:List (κ×α)){k:κ}{z:α}{zv:Value}{r:AV}{b:Bool}(hT:P.underlying T=some (.map kt et))(hd:P.underlying kt=some d)(hK:KeyF d kf)
  (hx:opv env x=some (.mp id))(hi:st[id]? =some (mpO kf g L))(hk:opv env ki=some (.d (.v (kf k))))(hz:(P.info? et).bind (·.zero)=some zv)(hgz:∀m φ w,RA m φ w (g z) zv)(hr:g ((bT L k).getD z)=r)(hb:(bT L k).isSome=b):
  Yields P env st ⟨dst, .lookup T x ki true,ty,pos,after,guard⟩ (.tu [r, .d (.v (.bool b))]):=λm φ a w hs he=>by
 subst hr;subst hb;obtain⟨b,h1,h2⟩:=gk he hx;obtain⟨b',hbb,h0,l,cl,g1,g2,g3,g4⟩:=hs.obj id _ _ hi h1;simp only[Cz.blk.injEq] at hbb;subst hbb;have hkeys:l.map (·.key)=L.map (λp=>kf p.1):=by rw[g2];simp
 have hkv:=bt he hk;have hlt:=cK g1;have tu:∀{x:AV}{v:Value}{c:Bool},RA m φ w x v->RA m φ w (.tu [x, .d (.v (.bool c))]) (.tuple #[v, .bool c]):=λh=>by
  grind [RA,bp,RAv,cD]
 cases hinf:P.info? et with
 |none=>simp[hinf] at hz
 |some i=>
  simp only[hinf,bnS] at hz;rcases fJ hK k L l 0 hkeys with⟨q1,q2,_⟩|⟨j,e,y,q1,q2,q3,q4,q5,_⟩
  refine⟨.tuple #[zv, .bool false],by rw[q1,Option.getD_none];exact tu (hgz m φ w),λw' hb=>?_⟩;have g1':w'.heap[b]? =some (.map ⟨l⟩ cl):=by rw[hb.block b hlt];exact g1
  simp[execOp,Instr.lookup,h2,hkv,run_underlying hT,MapKept.run_getObj_map g1',run_checkKey hd (hK.key k),run_findKey hd q2,zeroValue,typeInfo,hinf,hz,Result.andThen];have hval:RA m φ w (g y) e.val:=by
   have:(((L.map λp=>(kf p.1,g p.2)).map (·.2)))[j]? =some (g y):=by simp[q2]
   grind [cP]
  refine⟨.tuple #[e.val, .bool true],by rw[q3,Option.getD_some];exact tu hval,λw' hb=>?_⟩;have g1':w'.heap[b]? =some (.map ⟨l⟩ cl):=by rw[hb.block b hlt];exact g1
  simp[execOp,Instr.lookup,h2,hkv,run_underlying hT,MapKept.run_getObj_map g1',run_checkKey hd (hK.key k),run_findKey hd q5,Result.andThen]
end
end Go.Sk
namespace Go.Sk
open Go.RowKit (Below)
def aY{α:Type}(E:α->List D)(F:Nat->α)(j:Nat):D:=List.getD (E (F (j / 2))) (j%2) (.v undef)
theorem yY(n:Nat)(f:Nat->D):Le (.ag (br n λj=> .d (f j))) (.d (.ag (uI n f))):=an (by rw[uH];exact Les.refl _)
theorem mo{α:Type}{E:α->List D}{F:Nat->α}(hE:∀x,(E x).length=2)(n:Nat){i:Nat}(hi:i<n):
  ((br (n*2) λj=> .d (aY E F j)).drop (i*2)).take 2=(E (F i)).map AV.d:=by
 have h2:=hE (F i);match hq:E (F i),h2 with
 |[x,y],_=>
  apply List.ext_getElem?;intro j;rw[List.getElem?_take];by_cases hj:j<2;rw[if_pos hj,List.getElem?_drop];have h3:(br (n*2) λj=>AV.d (aY E F j))[i*2+j]? =some (.d (aY E F (i*2+j))):=by grind [br]
  grind [aY];grind
theorem mm{f:Nat->AV}(n:Nat):(br n f).length=n:=by simp[br]
theorem pN{α:Type}{E:α->List D}(F:Nat->α)(hE:∀x,(E x).length=2)(n:Nat){i:Nat}(hi:i<n)(v:α):
  (br (n*2) λj=> .d (aY E F j)).take (i*2)++(E v).map AV.d++(br (n*2) λj=> .d (aY E F j)).drop (i*2+2)=br (n*2) λj=> .d (aY E (bn F i v) j):=by
 have h2:=hE v;match hq:E v,h2 with
 |[x,y],_=>
  apply List.ext_getElem?;intro j;have hl:=mm (f:=λj=>AV.d (aY E F j)) (n*2);by_cases hj:j<n*2;have hr:(br (n*2) λj=>AV.d (aY E (bn F i v) j))[j]? =some (.d (aY E (bn F i v) j)):=by simp[br,hj]
  have hr0:(br (n*2) λj=>AV.d (aY E F j))[j]? =some (.d (aY E F j)):=by simp[br,hj]
  rw[hr];by_cases h1:j<i*2;rw[List.append_assoc,List.getElem?_append_left (by rw[List.length_take];omega),List.getElem?_take,if_pos h1,hr0];grind [aY,bn,nbE];by_cases h3:j<i*2+2;rw[List.getElem?_append_left (by rw[List.length_append,List.length_take];simp;omega),List.getElem?_append_right (by rw[List.length_take];omega),List.length_take,hl,Nat.min_eq_left oM];have he:j / 2=i:=oM;grind [aY,bn,Nat.beq_refl];rw[List.getElem?_append_right (by rw[List.length_append,List.length_take];simp;omega),List.getElem?_drop];have e1:i*2+2+(j - ((List.take (i*2) (br (n*2) λj=>AV.d (aY E F j)))++List.map AV.d [x,y]).length)=j:=by grind
  grind [aY,bn,nbE];grind [br,aY,bn]
section
variable{P:Program}{e:En}{ops:Array Oper}{env:Env}{st:List AO}{R:Env->List AO->Prop}{dst:Option Tmp}{ty:TypeId}{pos:String}{after:Array Edge}{guard:Option (Nat×Bool)}
theorem su{cs:List AV}{off n:Nat}{f:Nat->AV}(hlen:Nat.ble (off+n) cs.length=true)(h:(cs.drop off).take n=br n f):cs=cs.take off++(br n f++cs.drop (off+n)):=by grind [List.drop_drop,List.take_append_drop]
theorem bH{α:Type}{T:TypeId}{x:Operand}{id off N n:Nat}{T':TypeId}{cs:List AV}(E:α->List D)(F:Nat->α){i:Int}(hE:∀x,(E x).length=2)(hN:N=n*2)(hx:opv env x=some (.pt id (off+i.toNat*2)))(hs:st[id]? =some (.row T' cs))(hT:aX P T=some true)(hn:bI P T=some 2)
  (hlen:Nat.ble (off+N) cs.length=true)(h:(cs.drop off).take N=br N (λj=> .d (aY E F j)))(hg:bS n i=true):
  Yields P env st ⟨dst, .load T x,ty,pos,after,guard⟩ (.d (.ag (E (F i.toNat)))):=by
 subst hN;have hle:=nbT hlen;have h3:=(dm hg).2;have hy:=oy (P:=P) (dst:=dst) (ty:=ty) (pos:=pos) (after:=after) (guard:=guard) (n:=2) hx hs hT hn (Nat.ble_eq_true_of_le oM);have e1:(cs.drop (off+i.toNat*2)).take 2=(E (F i.toNat)).map AV.d:=by rw[<-mo (F:=F) hE n h3,<-h,List.drop_take,List.drop_drop,List.take_take,Nat.min_eq_left oM]
 rw[e1] at hy;intro m φ a w hsr he;obtain⟨v,h5,h6⟩:=hy m φ a w hsr he;exact⟨v,an (Les.refl _) m φ w v h5,h6⟩
theorem iR{α:Type}{T:TypeId}{x:Operand}{id off N n fo:Nat}{T':TypeId}{cs:List AV}(E:α->List D)(F:Nat->α){i:Int}{p:D}(hE:∀x,(E x).length=2)(hN:N=n*2)(hfo:fo<2)(hp:(E (F i.toNat))[fo]? =some p)(hx:opv env x=some (.pt id (off+i.toNat*2+fo)))(hs:st[id]? =some (.row T' cs))(hT:aX P T=some false)
  (hlen:Nat.ble (off+N) cs.length=true)(h:(cs.drop off).take N=br N (λj=> .d (aY E F j)))(hg:bS n i=true):
  Yields P env st ⟨dst, .load T x,ty,pos,after,guard⟩ (.d p):=by
 subst hN;have hle:=oM;have h3:=(dm hg).2;refine q8 hx hs hT ?_;have e1:(cs.drop (off+i.toNat*2)).take 2=(E (F i.toNat)).map AV.d:=by rw[<-mo (F:=F) hE n h3,<-h,List.drop_take,List.drop_drop,List.take_take,Nat.min_eq_left oM]
 have e2:((cs.drop (off+i.toNat*2)).take 2)[fo]? =some (.d p):=by grind
 grind
theorem ef{α:Type}{T:TypeId}{x y:Operand}{id off N n:Nat}{T':TypeId}{cs cs':List AV}{r0:AV}(E:α->List D)(F:Nat->α)(v:α){i:Int}(hE:∀x,(E x).length=2)(hN:N=n*2)(hx:opv env x=some (.pt id (off+i.toNat*2)))(hs:st[id]? =some (.row T' cs))(hy:opv env y=some r0)(hle:Le r0 (.d (.ag (E v))))(hk1:((E v).map AV.d).all AV.ok1=true)
  (hn:bI P T=some 2)(hlen:Nat.ble (off+N) cs.length=true)(h:(cs.drop off).take N=br N (λj=> .d (aY E F j)))(hg:bS n i=true)
  (hc:cs'=cs.take off++(br N (λj=> .d (aY E (bn F i.toNat v) j))++cs.drop (off+N))):
  fP P env st ⟨dst, .store T x y,ty,pos,after,guard⟩ (.d (.v undef)) (st.set id (.row T' cs')):=λm φ a w hsr he=>by
 subst hN;have hlb:=hlen;have hlen:=nbT hlen;have h3:=(dm hg).2;obtain⟨b,h1,h2⟩:=fG he hx;obtain⟨b',hbb,_,vs,h3',h4⟩:=hsr.obj id _ _ hs h1;simp only[Cz.blk.injEq] at hbb;subst hbb;obtain⟨us,g1,g2⟩:=bW (hle m φ w _ (bv he hy)) rfl;simp only[AV.cells] at g2;have hul:=aL g2;rw[List.length_map,hE] at hul;have hvl:=aL h4;have hst:=run_storeCells_at P b (off+i.toNat*2) T' us 0 ⟨vs⟩ w h3' (by simp;omega) (iX g2 hk1);have e1:cs.take (off+i.toNat*2)++(E v).map AV.d++cs.drop (off+i.toNat*2+2)=cs':=by
  rw[hc,<-pN F hE n h3 v];conv=>lhs;rw[su hlb h]
  have hl:(cs.take off).length=off:=by grind
  have hl2:=mm (f:=λj=>AV.d (aY E F j)) (n*2);rw[List.take_append,List.take_of_length_le (by rw[hl];omega),hl,show off+i.toNat*2 - off=i.toNat*2 by omega,List.take_append_of_le_length (by rw[hl2];omega)];rw[List.drop_append,List.drop_eq_nil_of_le (by rw[hl];omega),hl,show off+i.toNat*2+2 - off=i.toNat*2+2 by omega,List.drop_append_of_le_length (by rw[hl2];omega)];simp_all
 have hnew:RAs m φ w cs' (vs.take (off+i.toNat*2)++us++vs.drop (off+i.toNat*2+2)):=by grind [ba,cW,cX]
 obtain⟨k1,k2⟩:=md hsr hs h1 hnew;refine⟨undef,_,m,φ, .inr ⟨?_,rfl⟩,k1,k2,RAv⟩;simp_all [execOp,Instr.storeAt,Instr.sureAddr,storeVar,bG]
theorem c7{T:TypeId}{x:Operand}{id off N:Nat}{T':TypeId}{cs:List AV}(f:Nat->D)(hx:opv env x=some (.pt id off))(hs:st[id]? =some (.row T' cs))(hT:aX P T=some true)(hn:bI P T=some N)(hlen:Nat.ble (off+N) cs.length=true)(h:(cs.drop off).take N=br N (λj=> .d (f j))):
  Yields P env st ⟨dst, .load T x,ty,pos,after,guard⟩ (.d (.ag (uI N f))):=by
 have hy:=oy (P:=P) (dst:=dst) (ty:=ty) (pos:=pos) (after:=after) (guard:=guard) hx hs hT hn hlen;rw[h] at hy;intro m φ a w hsr he;obtain⟨v,h5,h6⟩:=hy m φ a w hsr he;exact⟨v,yY N f m φ w v h5,h6⟩
theorem vO{β:Type}{E:β->List D}{F:Nat->β}{cs:List AV}{off N n:Nat}(hE:∀x,(E x).length=2)(hN:N=n*2)(h:(cs.drop off).take N=br N (λj=> .d (aY E F j))){i:Int}(hg:bS n i=true):(cs.drop (off+i.toNat*2)).take 2=(E (F i.toNat)).map AV.d:=by subst hN;have h3:=(dm hg).2;rw[<-mo (F:=F) hE n h3,<-h,List.drop_take,List.drop_drop,List.take_take,Nat.min_eq_left oM]
theorem vN{β:Type}{E:β->List D}{cs:List AV}{off N n:Nat}(F:Nat->β)(hE:∀x,(E x).length=2)(hN:N=n*2)(hlen:Nat.ble (off+N) cs.length=true)(h:(cs.drop off).take N=br N (λj=> .d (aY E F j))){i:Int}(hg:bS n i=true)(v:β){cs':List AV}
  (hc:cs'=cs.take off++(br N (λj=> .d (aY E (bn F i.toNat v) j))++cs.drop (off+N))):cs'=cs.take (off+i.toNat*2)++(E v).map AV.d++cs.drop (off+i.toNat*2+2):=by
 subst hN;have hlb:=hlen;have hlen:=nbT hlen;have h3:=(dm hg).2;have e:=su hlb h;have hl:(cs.take off).length=off:=by grind
 have hl2:=mm (f:=λj=>AV.d (aY E F j)) (n*2);have t1:cs.take (off+i.toNat*2)=cs.take off++(br (n*2) λj=>AV.d (aY E F j)).take (i.toNat*2):=by grind
 have t2:cs.drop (off+i.toNat*2+2)=(br (n*2) λj=>AV.d (aY E F j)).drop (i.toNat*2+2)++cs.drop (off+n*2):=by
  conv=>lhs;rw[e]
  rw[List.drop_append,List.drop_eq_nil_of_le (by rw[hl];omega),hl,show off+i.toNat*2+2 - off=i.toNat*2+2 by omega,List.drop_append_of_le_length (by rw[hl2];omega),List.nil_append]
 rw[hc,<-pN F hE n h3 v,t1,t2];grind
end
end Go.Sk
namespace Go.Sk
open Go.RowKit (Below)
def kvs(ky:Nat->Value):Nat->List D->List AV
 |_,[]=> []
 |j,d::ds=> .kv (ky j) d::kvs ky (j+1) ds
theorem sP(ky:Nat->Value):∀(j:Nat)(ds:List D),(kvs ky j ds).length=ds.length
 |_,[]=>rfl
 |j,_::ds=>by rw[kvs,List.length_cons,sP ky (j+1) ds,List.length_cons]
theorem Le.kv(y:Value)(x:D):Le (.kv y x) (.d x):=λ_ _ _ _ h=>by simp only[RA] at h⊢;exact h.2
def AV.stabb:AV->Bool
 | .u=>true
 | .d x=>x.gnd.isSome
 | .pt _ _=>true
 | .mp _=>true
 | .fn _ [.pt _ _] []=>true
 |_=>false
def AV.stabs:List AV->Bool
 |[]=>true
 |x::xs=>x.stabb&&AV.stabs xs
theorem tl{m φ φ' w w'}{x:AV}{v:Value}(hx:x.stabb=true)(h:RA m φ w x v):RA m φ' w' x v:=by
 cases x with
 |u=>simp[RA]
 |d x=>obtain⟨y,hy⟩:=Option.isSome_iff_exists.1 hx;grind [RA,wm,rN]
 |pt id off=>grind [RA]
 |mp id=>grind [RA]
 |fn f a b=>unfold AV.stabb at hx;grind [RA,RAs]
 |_=>simp[AV.stabb] at hx
theorem kx{m φ φ' w w'}:∀{xs:List AV}{vs:List Value},AV.stabs xs=true->RAs m φ w xs vs->RAs m φ' w' xs vs
 |[],_,_,h=>by simpa[RAs] using h
 |x::xs,vs,hx,h=>by
  simp only[AV.stabs,Bool.and_eq_true] at hx;obtain⟨c,cs,h1,h2,h3⟩:=h;exact⟨c,cs,h1,tl hx.1 h2,kx hx.2 h3⟩
theorem gB{m φ w}:∀{xs ys:List AV}{vs:List Value},RAs m φ w (xs++ys) vs->∃us ws,vs=us++ws/\RAs m φ w xs us/\RAs m φ w ys ws
 |[],ys,vs,h=>⟨[],vs,rfl,cD,h⟩
 |x::xs,ys,vs,h=>by
  rw[List.cons_append] at h;obtain⟨c,cs,rfl,h2,h3⟩:=h;obtain⟨us,ws,rfl,h4,h5⟩:=gB h3;grind [bp]
inductive Stabs:List AO->Prop
 |nil:Stabs []
 |row {T cs l}:AV.stabs cs=true->Stabs l->Stabs (.row T cs::l)
 |mp {κ α:Type} {kf:κ->Value} {g:α->AV} {L:List (κ×α)} {l}:(∀z,(g z).stabb=true)->Stabs l->Stabs (mpO kf g L::l)
theorem nJ{κ α:Type}{g:α->AV}(hg:∀z,(g z).stabb=true):∀L:List (κ×α),AV.stabs (L.map λp=>g p.2)=true
 |[]=>rfl
 |p::L=>by rw[List.map_cons,AV.stabs,hg,nJ hg L];rfl
theorem Stabs.get{l:List AO}(h:Stabs l):∀{i:Nat}{o:AO},l[i]? =some o->o.live=true/\∀{m φ φ' w c},(∀b,c.has b->φ' b=0)->OR m φ w o c->OR m φ' w o c:=by
 induction h with
 |nil=>simp_all
 |row hc _ ih=>
  intro i o hi;cases i with
  |zero=>simp only[List.getElem?_cons_zero,aK] at hi;subst hi;refine⟨rfl,λhb ⟨b,h1,h2,vs,h3,h4⟩=>?_⟩;subst h1;exact⟨b,rfl,hb b rfl,vs,h3,kx hc h4⟩
  |succ i=>grind
 | @mp κ α kf g L l hg _ ih=>
  intro i o hi;cases i with
  |zero=>simp only[List.getElem?_cons_zero,aK] at hi;subst hi;refine⟨rfl,λhb ⟨b,h1,h2,l,cl,h3,h4,h5,h6⟩=>?_⟩;subst h1;refine⟨b,rfl,hb b rfl,l,cl,h3,h4,?_,h6⟩;refine kx ?_ h5;rw[List.map_map];exact nJ hg L
  |succ i=>grind
def Vw(st:List AO)(js:List Nat)(c:AV)(d:D):Prop:=∀{m:List Cz}{φ φv:Nat->Nat}{w:World}{v:Value},SR m φ st w->Fz φ w φv w->(∀b,(∀(j:Nat)(c:Cz),j∈js->m[j]? =some c->¬c.has b)->φv b=bz w b)->RA m φ w c v->RD φv w d v
def Vws(st:List AO)(js:List Nat):List AV->List D->Prop
 |[],[]=>True
 |c::cs,d::ds=>Vw st js c d/\Vws st js cs ds
 |_,_=>False
theorem qN{st:List AO}{js:List Nat}{m:List Cz}{φ φv:Nat->Nat}{w:World}(hs:SR m φ st w)(hF:Fz φ w φv w)(hv:∀b,(∀(j:Nat)(c:Cz),j∈js->m[j]? =some c->¬c.has b)->φv b=bz w b):
  ∀{cs:List AV}{ds:List D}{vs:List Value}{k:Nat}{ky:Nat->Value},Vws st js cs ds->RAs m φ w cs vs->(∀j v,vs[j]? =some v->ky (k+j)=v)->RAs m φv w (kvs ky k ds) vs
 |[],[],vs,k,ky,_,h,_=>by simpa[RAs,kvs] using h
 |c::cs,d::ds,vs,k,ky,hw,h,hk=>by
  obtain⟨v,vs',rfl,h2,h3⟩:=h;refine⟨v,vs',rfl,?_,qN hs hF hv hw.2 h3 λj u hj=>by rw[Nat.add_right_comm,Nat.add_assoc];exact hk (j+1) u (by simpa using hj)⟩;exact⟨(hk 0 v rfl).symm,hw.1 hs hF hv h2⟩
 |[],_::_,_,_,_,hw,_,_=>hw.elim
 |_::_,[],_,_,_,hw,_,_=>hw.elim
theorem Vws.len{st:List AO}{js:List Nat}:∀{cs:List AV}{ds:List D},Vws st js cs ds->cs.length=ds.length
 |[],[],_=>rfl
 |_::_,_::_,h=>by rw[List.length_cons,List.length_cons,Vws.len h.2]
 |[],_::_,h=>h.elim
 |_::_,[],h=>h.elim
theorem qp{m φ w}:∀{ds:List D}{vs:List Value}{k:Nat}{ky:Nat->Value},RAs m φ w (kvs ky k ds) vs->∀j v,vs[j]? =some v->v=ky (k+j)
 |[],vs,k,ky,h,j,v,hj=>by simp only[kvs,RAs] at h;subst h;simp at hj
 |d::ds,vs,k,ky,h,j,v,hj=>by
  obtain⟨c,cs,rfl,h2,h3⟩:=h;cases j with
  |zero=>grind [RA]
  |succ j=>rw[show k+(j+1)=k+1+j by omega];exact qp h3 j v (by simpa using hj)
theorem xc{w:World}{b off:Nat}{c:Value}(h:w.cell? ⟨b,off,none⟩=some c):off<bz w b:=by unfold World.cell? at h;grind [bz]
theorem Vw.d{st:List AO}{js:List Nat}{x:D}:Vw st js (.d x) x:=λ_ hF _ h=>by
 simp only[RA] at h;exact RD.mono hF _ _ h
theorem ti{m φ w φv}{α:Type}{E:α->List D}(hF:Fz φ w φv w){L:List α}{vs:List Value}(h:RAs m φ w (L.map (aS E)).flatten vs):RFs φv w (L.map E).flatten vs:=by
 have e:(L.map (aS E)).flatten=(L.map E).flatten.map AV.d:=by rw[List.map_flatten,List.map_map];rfl
 rw[e] at h;have:=RAs.mono (Pre.refl m) hF _ _ h;clear h e;generalize(L.map E).flatten=ds at this;induction ds generalizing vs with
 |nil=>grind [RAs,RFs]
 |cons d ds ih=>grind [RAs,RFs,RA]
theorem sc{φv w}{T k:Nat}{y:Value}{es:List (List D)}{xs:List Value}(h1:w.ownsRow 0 T k y es.length xs)(hk:∀e∈es,e.length=k)(h2:RFs φv w es.flatten xs)(hφ:∀b,y.ownBlock=some b->φv b=bz w b):RD φv w (.sl es) y:=by
 rcases h1.2 with⟨rfl,hn⟩|⟨g,cap,cur,rfl,_,hg,hnc,_,_,_⟩
 exact .inl ⟨List.eq_nil_of_length_eq_zero hn,none,0,rfl,λ_=>rfl⟩;refine .inr ⟨g,0,k,cap,rfl,hnc,hk,fy hk h2 λj v hj=>?_⟩;have hc:=dG h1 hj;rw[Nat.zero_add];have hlt:j<bz w g:=by grind [bz]
 exact⟨by rw[hφ g rfl];exact hlt,hc⟩
theorem Vw.os{st:List AO}{js:List Nat}{id ver T k:Nat}{α:Type}{E:α->List D}{L:List α}(hi:st[id]? =some (.os T k ver (L.map (aS E))))(hn:id∉js)(hjl:∀j∈js,∃o,st[j]? =some o/\o.live=true)(hE:∀x,(E x).length=k):Vw st js (.os id ver) (.sl (L.map E)):=λ{m φ φv w v} hs hF hv h=>by
 obtain⟨v0,y0,g1,g2,g3⟩:=h;obtain⟨y',xs,e1,h1,h2,h3,h4⟩:=hs.obj id _ _ hi g1;obtain⟨rfl,rfl⟩:=e1;have hy:=g3 rfl;subst hy;rw[List.length_map] at h1;refine sc (T:=T) (k:=k) (xs:=xs) (by rw[List.length_map];exact h1) (λe he=>by obtain⟨x,_,rfl⟩:=List.mem_map.1 he;exact hE x) (ti hF h2) λb hb=>hv b λj c hj hc hh=>?_;obtain⟨o,ho,hl⟩:=hjl j hj;have:=hs.inj id j _ o _ c b hi ho rfl hl g1 hc hb hh;simp_all
theorem Vw.fam{st:List AO}{js:List Nat}{oid vo To fid vf T k n:Nat}{α:Type}{E:α->List D}{L:List (List α)}(hi:st[oid]? =some (.os To 1 vo (bf fid vf n)))(hf:st[fid]? =some (.fam T k vf (bu E L)))(hL:n=L.length)(hn:oid∉js)(hn2:fid∉js)(hjl:∀j∈js,∃o,st[j]? =some o/\o.live=true)(hE:∀x,(E x).length=k):
  Vw st js (.os oid vo) (.sl (L.map λM=> [.sl (M.map E)])):=λ{m φ φv w v} hs hF hv h=>by
 subst hL;obtain⟨v0,y0,g1,g2,g3⟩:=h;obtain⟨y',xs,e1,h1,h2,h3,h4⟩:=hs.obj oid _ _ hi g1;obtain⟨rfl,rfl⟩:=e1;have hy:=g3 rfl;subst hy;rw[fa] at h1;obtain⟨cf,hcf⟩:∃c,m[fid]? =some c:=⟨_,geG (by rw[hs.len];exact gn hf)⟩;obtain⟨ys,f1,f2,f3,f4⟩:=hs.obj fid _ _ hf hcf;subst f1;refine sc (T:=To) (k:=1) (xs:=xs) (by rw[List.length_map];exact h1) (λe he=>by obtain⟨x,_,rfl⟩:=List.mem_map.1 he;rfl) ?_ λb hb=>hv b λj c hj hc hh=>?_;have e0:∀N:List (List α),(N.map λM=> [D.sl (M.map E)]).flatten=N.map λM=>D.sl (M.map E):=by
  intro N;induction N with
  |nil=>rfl
  |cons M N ih=>simp[ih]
 rw[e0];have hfl:(bf fid vf L.length).flatten=(List.range L.length).map λi=>AV.osf fid i vf:=by
  unfold bf;induction (List.range L.length) with
  |nil=>rfl
  |cons a l ih=>simp[ih]
 rw[hfl] at h2;have key:∀(i:Nat)(M:List α)(u:Value),L[i]? =some M->RA m φ w (.osf fid i vf) u->RD φv w (.sl (M.map E)) u:=λi M u hM hu=>by
  obtain⟨v1,ys1,q1,q2,q3⟩:=hu;rw[hcf] at q1;obtain⟨rfl,rfl⟩:=q1;have hyi:=q3 rfl;obtain⟨xs2,p1,p2,p3,p4⟩:=f3 i (M.map (aS E)) u (by simp[bu,hM]) hyi;rw[List.length_map] at p1;refine sc (T:=T) (k:=k) (xs:=xs2) (by rw[List.length_map];exact p1) (λe he=>by obtain⟨x,_,rfl⟩:=List.mem_map.1 he;exact hE x) (ti hF p2) λb hb=>hv b λj c hj hc hh=>?_;obtain⟨o,ho,hl⟩:=hjl j hj;have:=hs.inj fid j _ o _ c b hf ho rfl hl hcf hc ⟨u,List.mem_of_getElem? hyi,hb⟩ hh;simp_all
 have gen:∀(r:Nat)(N:List (List α))(us:List Value),(∀i M,N[i]? =some M->L[r+i]? =some M)->RAs m φ w ((List.range' r N.length).map λi=>AV.osf fid i vf) us->RFs φv w (N.map λM=>D.sl (M.map E)) us:=by
  intro r N;induction N generalizing r with
  |nil=>grind [RAs,RFs]
  |cons M N ih=>intro us hN h;obtain⟨c,cs,rfl,q2,q3⟩:=h;exact⟨c,cs,rfl,key r M c (by simpa using hN 0 M rfl) q2,ih (r+1) cs (λi M' hM'=>by rw[Nat.add_assoc,Nat.add_comm 1 i];exact hN (i+1) M' (by simpa using hM')) q3⟩
 grind [List.range_eq_range'];obtain⟨o,ho,hl⟩:=hjl j hj;have:=hs.inj oid j _ o _ c b hi ho rfl hl g1 hc hb hh;exact hn (this▸hj)
theorem Stabs.blk{l:List AO}(h:Stabs l):∀{i:Nat}{o:AO},l[i]? =some o->∀{m φ w c},OR m φ w o c->∃b,c= .blk b/\φ b=0:=by
 induction h with
 |nil=>simp_all
 |row _ _ ih=>
  intro i o hi;cases i with
  |zero=>simp only[List.getElem?_cons_zero,aK] at hi;subst hi;rintro m φ w c ⟨b,h1,h2,_⟩;simp_all
  |succ i=>grind
 |mp _ _ ih=>
  intro i o hi;cases i with
  |zero=>simp only[List.getElem?_cons_zero,aK] at hi;subst hi;rintro m φ w c ⟨b,h1,h2,_⟩;simp_all
  |succ i=>grind
theorem Stabs.live{l:List AO}(h:Stabs l):jn l=true:=by
 induction h with
 |nil=>rfl
 |row _ _ ih=>simp only[jn,ih,Bool.and_true];rfl
 |mp _ _ ih=>simp only[jn,ih,Bool.and_true];rfl
theorem xJ{m m' φ w}{ky:Nat->Value}:∀{ds:List D}{k:Nat}{vs:List Value},RAs m φ w (kvs ky k ds) vs->RAs m' φ w (kvs ky k ds) vs
 |[],_,_,h=>by simpa[kvs,RAs] using h
 |d::ds,k,vs,h=>by
  obtain⟨c,cs,h1,h2,h3⟩:=h;exact⟨c,cs,h1,by simpa[RA] using h2,xJ h3⟩
theorem n5{id:Nat}{x:AO}:∀{js:List Nat}{st l:List AO},id∉js->e9 js st l->e9 js (st.set id x) l
 |[],_,[],_,_=>trivial
 |j::js,st,o::l,hn,h=>by
  have h1:id≠j:=by simp_all
  refine⟨by rw[List.getElem?_set_ne h1];exact h.1,n5 (λh=>hn (List.mem_cons_of_mem _ h)) h.2⟩
 |[],_,_::_,_,h=>h.elim
 |_::_,_,[],_,h=>h.elim
theorem my{id:Nat}{x:AO}:∀{js:List Nat}{os st:List AO},id∉js->(bM js os st).set id x=bM js os (st.set id x)
 |[],_,_,_=>by simp[bM]
 |j::js,[],_,_=>by simp[bM]
 |j::js,o::os,st,hn=>by
  have h1:id≠j:=by simp_all
  rw[bM,bM,my (λh=>hn (List.mem_cons_of_mem _ h)),List.set_comm _ _ (Ne.symm h1)]
theorem SR.swap2{m:List Cz}{φ:Nat->Nat}{w:World}{st:List AO}{id:Nat}{o o':AO}(hs:SR m φ st w)(hi:st[id]? =some o)(hl:o.live=true)(h:∀c,m[id]? =some c->OR m φ w o c->OR m φ w o' c):SR m φ (st.set id o') w:=by
 have hlt:=(giS.1 hi).1;refine⟨by rw[List.length_set];exact hs.len,λi x c h1 h2=>?_,hs.lt,λi j x x' c c' b h1 h2 l1 l2 g1 g2 b1 b2=>?_,hs.gl,hs.nb⟩;by_cases hii:id=i;subst hii;rw[List.getElem?_set_self hlt,aK] at h1;subst h1;exact h c h2 (hs.obj _ _ _ hi h2);rw[List.getElem?_set_ne hii] at h1;exact hs.obj _ _ _ h1 h2;have old:∀(i:Nat)(x:AO),(st.set id o')[i]? =some x->x.live=true->∃y,st[i]? =some y/\y.live=true:=λi x hx hlx=>by
  grind
 obtain⟨y,e1,e2⟩:=old i x h1 l1;obtain⟨y',e3,e4⟩:=old j x' h2 l2;exact hs.inj i j y y' c c' b e1 e3 e2 e4 g1 g2 b1 b2
theorem sd{m φ w}:∀{n:Nat}{xs:List Value},xs.length=n->RAs m φ w (List.replicate n AV.u) xs
 |0,xs,h=>by rw[List.eq_nil_of_length_eq_zero h];exact cD
 |n+1,x::xs,h=>bp (by simp[RA]) (sd (by simpa using h))
theorem oR{js:List Nat}:∀(n:Nat),AV.rens js (List.replicate n AV.u)=List.replicate n AV.u
 |0=>rfl
 |n+1=>by rw[List.replicate_succ,AV.rens,oR n];rfl
theorem rH{k:Nat}:∀(n:Nat),AV.lts k (List.replicate n AV.u)=true
 |0=>rfl
 |n+1=>by rw[List.replicate_succ,AV.lts,rH n];rfl
theorem p8(js:List Nat)(a b:List AV):AV.rens js (a++b)=AV.rens js a++AV.rens js b:=by rw[cS,cS,cS,List.map_append]
theorem mF{k:Nat}:∀{a b:List AV},AV.lts k a=true->AV.lts k b=true->AV.lts k (a++b)=true
 |[],_,_,h=>h
 |x::a,b,h,h'=>by
  simp only[AV.lts,Bool.and_eq_true] at h;rw[List.cons_append,AV.lts,h.1,mF h.2 h'];rfl
section
variable{P:Program}{e:En}{ops:Array Oper}{o:Oper}{rest:List Oper}{env:Env}{st:List AO}{R:Env->List AO->Prop}{d:Nat}
open Classical in
theorem wX{f:FuncId}{asz as0:List AV}{T:TypeId}{csA csB0:List AV}{dsA:List D}{mps0:List AO}{S:(Nat->Value)->AV->List AO->Prop}{m φ w}{vs:List Value}{id:Nat}{js' js:List Nat}(hjs:id::js'=js)
  (hc:∀ky,Ctr P f as0 (.row T (kvs ky 0 dsA++csB0)::mps0) (eN js.length (S ky)))(hs:SR m φ st w)(ha:RAs m φ w asz vs)
  (hl:Les asz (AV.rens js as0))(hla:AV.lts js.length as0=true)(hj:js.Nodup)
  (hi:st[id]? =some (.row T (csA++AV.rens js csB0)))(hwin:e9 js' st (mps0.map (AO.ren js)))(hlt:AV.lts js.length csB0=true)(hlt2:dg js.length mps0=true)(hlive:Stabs mps0)
  (hvw:Vws st js csA dsA)
  (hS:∀ky r new,S ky r new->∃csB1 mps1,new= .row T (kvs ky 0 dsA++csB1)::mps1/\r.stabb=true/\r.lt js.length=true/\AV.stabs csB1=true/\Stabs mps1/\AV.lts js.length csB1=true/\dg js.length mps1=true):
  Calls P f ⟨vs⟩ w λen w'=>∃ky v r csB1 mps1 m',en= .returned v/\S ky r (.row T (kvs ky 0 dsA++csB1)::mps1)/\Ev m φ w m' φ w'/\SR m' φ (bM js (.row T (csA++AV.rens js csB1)::mps1.map (AO.ren js)) st) w'/\RA m' φ w' (r.ren js) v:=by
 have hjl:js.length=js'.length+1:=by rw[<-hjs];rfl
 have hid:id<st.length:=(giS.1 hi).1;have hnj:id∉js':=by rw[<-hjs] at hj;exact(List.nodup_cons.1 hj).1
 have hml:mps0.length=js'.length:=by have:=(dZ hwin).1;rwa [List.length_map] at this
 obtain⟨cz,hcz⟩:∃c,m[id]? =some c:=⟨_,geG (by rw[hs.len];exact hid)⟩;obtain⟨b,hb,hφb,vs0,hheap,hcells⟩:=hs.obj id _ _ hi hcz;subst hb;obtain⟨u1,u2,hvs0,hA,hB⟩:=gB hcells;let us:List AV:=List.replicate csA.length .u;let st2:=st.set id (.row T (us++AV.rens js csB0));have hi2:st2[id]? =some (.row T (us++AV.rens js csB0)):=by show(st.set id _)[id]? =_;rw[List.getElem?_set_self hid]
 have hs2:SR m φ st2 w:=hs.swap2 hi rfl λc hc1 ⟨b,h1,h2,vs,h3,h4⟩=>⟨b,h1,h2,vs,h3,by
  obtain⟨xs,ys,rfl,h5,h6⟩:=gB h4;exact ba (sd (aL h5)) h6⟩
 have hwin2:e9 js st2 ((.row T (us++csB0)::mps0).map (AO.ren js)):=by rw[<-hjs] at hi2 hwin⊢;refine⟨?_,n5 hnj hwin⟩;rw[hi2,AO.ren,p8,oR]
 have hstlt:dg js.length (.row T (us++csB0)::mps0)=true:=by simp only[dg,AO.lt,hlt2,Bool.and_true];exact mF (rH csA.length) hlt
 obtain⟨m0,hW,g1,g2,g3⟩:=nH hs2 hj hwin2 hstlt (by simp only[jn,hlive.live,Bool.and_true];rfl);have hm0l:m0.length=js.length:=by rw[g1.len,List.length_cons,hml,hjl]
 have hm00:m0[0]? =some (.blk b):=by rw[hW 0 id (by rw[<-hjs];rfl)];exact hcz
 have hphi:∀b',In m0 b'->φ b'=0:=by
  rintro b' ⟨i,c,h1,h2⟩;cases i with
  |zero=>rw[hm00,aK] at h1;subst h1;simp only[Cz.has] at h2;rw[<-h2];exact hφb
  |succ i=>
   have hil:i<mps0.length:=by rw[hml];have:=(giS.1 h1).1;omega
   obtain⟨b2,rfl,h4⟩:=hlive.blk (geG hil) (g1.obj (i+1) _ c (by rw[List.getElem?_cons_succ];exact geG hil) h1);simp only[Cz.has] at h2;rw[<-h2];exact h4
 let φv:Nat->Nat:=λb=>if In m0 b then 0 else bz w b
 have hφv0:∀b',In m0 b'->φv b'=0:=λb' h=>if_pos h;have hφv1:∀b',¬In m0 b'->φv b'=bz w b':=λb' h=>if_neg h;have hF:Fz φ w φv w:=λb' off c h1 h2=>by
  refine⟨?_,h2⟩;have hn:¬In m0 b':=λh=>by rw[hphi b' h] at h1;omega
  rw[hφv1 b' hn];exact(xc h2)
 have hvc:∀b',(∀(j:Nat)(c:Cz),j∈js->m[j]? =some c->¬c.has b')->φv b'=bz w b':=λb' h=>hφv1 b' λ⟨i,c,h1,h2⟩=>by
  have hil:i<js.length:=by rw[<-hm0l];exact(giS.1 h1).1
  have:=hW i _ (geG hil);rw[h1] at this;exact h _ c (List.getElem_mem hil) this.symm h2
 let ky:Nat->Value:=λj=>u1.getD j undef;have hkv:RAs m0 φv w (kvs ky 0 dsA) u1:=xJ (qN hs hF hvc hvw hA λj v hj=>by simp[ky,List.getD_eq_getElem?_getD,hj]);have hB0:RAs m0 φv w csB0 u2:=RAs.mono (Pre.refl m0) hF _ _ ((RAs.ren hW csB0 u2 hlt).1 hB);have hsr0:SR m0 φv (.row T (kvs ky 0 dsA++csB0)::mps0) w:=by
  have back:∀{i:Nat}{o:AO},(AO.row T (kvs ky 0 dsA++csB0)::mps0)[i]? =some o->o.live=true->∃o2,(AO.row T (us++csB0)::mps0)[i]? =some o2/\o2.live=true:=λ{i o} h hl=>by
   cases i with
   |zero=>exact⟨_,rfl,rfl⟩
   |succ i=>exact⟨o,h,hl⟩
  refine⟨by rw[g1.len];rfl,λi o c h1 h2=>?_,λb' hb'=>?_,λi j o o' c c' b' h1 h2 l1 l2 k1 k2 e1 e2=>?_,hs.gl.mono hF,g1.nb⟩;cases i with
  |zero=>simp only[List.getElem?_cons_zero,aK] at h1;subst h1;rw[hm00,aK] at h2;subst h2;exact⟨b,rfl,hφv0 b ⟨0,_,hm00,rfl⟩,vs0,hheap,by rw[hvs0];exact ba hkv hB0⟩
  |succ i=>refine(g1.obj (i+1) o c h1 h2).congr (Pre.refl m0) hF λb' hb'=>⟨rfl,?_⟩;rw[hφv0 b' ⟨i+1,c,h2,hb'⟩,hphi b' ⟨i+1,c,h2,hb'⟩]
  by_cases h:In m0 b';exact hφv0 b' h;rw[hφv1 b' h];simp[bz,hb'];obtain⟨o2,p1,p2⟩:=back h1 l1;obtain⟨o3,p3,p4⟩:=back h2 l2;exact g1.inj i j o2 o3 c c' b' p1 p3 p2 p4 k1 k2 e1 e2
 have ha0:RAs m0 φv w as0 vs:=RAs.mono (Pre.refl m0) hF _ _ (g2 as0 vs hla (hl.ras ha));refine((hc ky).2 m0 φv w vs hsr0 ha0).mono ?_;rintro en w' ⟨v,r,st1,m1,φ1,rfl,⟨q1,q2⟩,hev,hsr,hra⟩;obtain⟨csB1,mps1,hnew,hr1,hr2,hst1,hst2,hlt3,hlt4⟩:=hS ky r _ q2;have hml1:mps1.length+1=js.length:=by have:=congrArg List.length hnew;rw[List.length_take,Nat.min_eq_left q1] at this;simp at this;omega
 have hF':Fz φ w φ w':=λb' off c h1 h2=>⟨h1,(hev.fz b' off c (hF b' off c h1 h2).1 h2).2⟩;have hst1get:∀(i:Nat)(o:AO),(AO.row T (kvs ky 0 dsA++csB1)::mps1)[i]? =some o->st1[i]? =some o:=λi o h=>by
  rw[<-hnew] at h;rw[List.getElem?_take] at h;split at h;exact h;cases h
 let m1':=m1.take js.length;have hm1':∀(i:Nat)(c:Cz),m1'[i]? =some c->m1[i]? =some c/\i<js.length:=λi c h=>by
  have h:(m1.take js.length)[i]? =some c:=h;rw[List.getElem?_take] at h;split at h;rename_i hlt;exact⟨h,hlt⟩;cases h
 have hin1:∀b',In m1' b'->φ b'=0:=by
  rintro b' ⟨i,c,h1,h2⟩;rcases hev.new b' ⟨i,c,(hm1' i c h1).1,h2⟩ with h|h
  exact hphi b' h;exact hs.lt b' h
 have hm10:m1[0]? =some (.blk b):=hev.pre.blk hm00;obtain⟨b1,hb1,_,vs1,hheap1,hcells1⟩:=hsr.obj 0 _ _ (hst1get 0 _ rfl) hm10;simp only[Cz.blk.injEq] at hb1;subst hb1;obtain⟨x1,x2,hvs1,hA1,hB1⟩:=gB hcells1;have hx1:x1=u1:=by apply List.ext_getElem?;intro j;have l1:=aL hA1;have l2:=aL hA;rw[sP] at l1;have l3:=hvw.len;by_cases hj:j<x1.length;have hj2:j<u1.length:=oM;rw[geG hj,geG hj2];have:=qp hA1 j _ (geG hj);rw[this,Nat.zero_add];simp[ky,List.getD_eq_getElem?_getD,geG hj2];rw[List.getElem?_eq_none oM,List.getElem?_eq_none oM]
 have hsr':SR m1' φ (.row T (us++csB1)::mps1) w':=by
  have back:∀{i:Nat}{o:AO},(AO.row T (us++csB1)::mps1)[i]? =some o->o.live=true->∃o2,st1[i]? =some o2/\o2.live=true:=λ{i o} h hl=>by
   cases i with
   |zero=>exact⟨_,hst1get 0 _ rfl,rfl⟩
   |succ i=>exact⟨o,hst1get (i+1) o h,hl⟩
  refine⟨?_,λi o c h1 h2=>?_,λb' hb'=>hs.lt b' (Nat.le_trans hev.size hb'),λi j o o' c c' b' h1 h2 l1 l2 k1 k2 e1 e2=>?_,hs.gl.mono hF',?_⟩;show(m1.take js.length).length=_;rw[List.length_take,hsr.len,Nat.min_eq_left q1,List.length_cons,hml1];obtain⟨h2',hil⟩:=hm1' i c h2;cases i with
  |zero=>simp only[List.getElem?_cons_zero,aK] at h1;subst h1;rw[hm10,aK] at h2';subst h2';refine⟨b,rfl,hφb,vs1,hheap1,?_⟩;rw[hvs1];refine ba (sd ?_) (kx hst1 (RAs.take _ _ hlt3 hB1));rw[hx1];exact aL hA
  |succ i=>have ho:=hst1get (i+1) o h1;have hO:=hsr.obj _ _ _ ho h2';have hO2:OR m1' φ1 w' o c:=OR.take (eY hlt4 (by simpa using h1)) hO;exact(hst2.get (by simpa using h1)).2 (λb' hb'=>hin1 b' ⟨i+1,c,h2,hb'⟩) hO2
  obtain⟨o2,p1,p2⟩:=back h1 l1;obtain⟨o3,p3,p4⟩:=back h2 l2;exact hsr.inj i j o2 o3 c c' b' p1 p3 p2 p4 (hm1' i c k1).1 (hm1' j c' k2).1 e1 e2;rintro b' ⟨i,c,h1,h2⟩;exact hsr.nb b' ⟨i,c,(hm1' i c h1).1,h2⟩
 have hev':Ev m0 φ w m1' φ w':=by refine⟨λi c h=>?_,?_,hev.os,hev.tape,hev.output,hev.size,λb' hb' hn=>⟨(hev.keep b' hb' hn).1,rfl⟩,hF'⟩;obtain⟨c',h1,h2⟩:=hev.pre i c h;refine⟨c',?_,h2⟩;show(m1.take js.length)[i]? =_;rw[List.getElem?_take,if_pos (by rw[<-hm0l];exact(giS.1 h).1)];exact h1;rintro b' ⟨i,c,h1,h2⟩;exact hev.new b' ⟨i,c,(hm1' i c h1).1,h2⟩
 have hlen1:(AO.row T (us++csB0)::mps0).length=(AO.row T (us++csB1)::mps1).length:=by rw[List.length_cons,List.length_cons,hml,hml1,hjl]
 have hstlt1:dg js.length (.row T (us++csB1)::mps1)=true:=by simp only[dg,AO.lt,hlt4,Bool.and_true];exact mF (rH csA.length) hlt3
 obtain⟨m',p1,p2,p3⟩:=g3 (.row T (us++csB1)::mps1) m1' φ w' hev' hsr' (by rw[hlen1];exact Nat.le_refl _) (by rw[hlen1,List.take_length];exact hstlt1);rw[hlen1,List.take_length] at p2;refine⟨ky,v,r,csB1,mps1,m',rfl,by rw[<-hnew];exact q2,p1,?_,p3 r v hr2 (tl hr1 (RA.take r v hr2 hra))⟩;have hput:bM js ((AO.row T (us++csB1)::mps1).map (AO.ren js)) st2=bM js' (mps1.map (AO.ren js)) (st.set id (.row T (us++AV.rens js csB1))):=by rw[List.map_cons,AO.ren,p8,oR,<-hjs,bM];show bM _ _ ((st.set id _).set id _)=_;rw[List.set_set]
 rw[hput] at p2;have hgoal:bM js (.row T (csA++AV.rens js csB1)::mps1.map (AO.ren js)) st=bM js' (mps1.map (AO.ren js)) ((st.set id (.row T (us++AV.rens js csB1))).set id (.row T (csA++AV.rens js csB1))):=by rw[List.set_set,<-hjs,bM]
 rw[hgoal,<-my hnj];have hm'id:m'[id]? =some (.blk b):=p1.pre.blk hcz;refine p2.swap2 (o:= .row T (us++AV.rens js csB1)) ?_ rfl λc hc1 ⟨b2,h1,h2,vs2,h3,h4⟩=>?_;have hjs'lt:∀j∈js',j<(st.set id (.row T (us++AV.rens js csB1))).length:=λj hj'=>by
  obtain⟨a,ha'⟩:=List.getElem?_of_mem hj';rw[List.length_set];exact((dZ hwin).2 a j ha').2
 rw[(gK (js:=js') (by rw[<-hjs] at hj;exact(List.nodup_cons.1 hj).2) (by rw[List.length_map];omega) hjs'lt id).2 hnj,List.getElem?_set_self hid];rw[hm'id,aK] at hc1;subst hc1;simp only[Cz.blk.injEq] at h1;subst h1;rw[hheap1] at h3;simp only[aK,Obj.cells.injEq,Array.mk.injEq,and_true,true_and] at h3;subst h3;refine⟨b,rfl,h2,vs1,hheap1,?_⟩;obtain⟨z1,z2,hz,h5,h6⟩:=gB h4;have hz1:z1.length=x1.length:=by have l1:=aL h5;rw[hx1];have l2:=aL hA;have:us.length=csA.length:=List.length_replicate;omega
 have hzz:z1=x1/\z2=x2:=List.append_inj (by rw[<-hz,hvs1]) hz1;rw[hvs1,<-hzz.2,hx1];exact ba (RAs.mono p1.pre p1.fz _ _ hA) h6
def o5(st:List AO):List Nat->Bool
 |[]=>true
 |j::js=>(match st[j]? with|some o=>o.live|none=>false)&&o5 st js
theorem dn{st:List AO}:∀{js:List Nat},o5 st js=true->∀j∈js,∃o,st[j]? =some o/\o.live=true
 |[],_,j,hj=>by cases hj
 |i::js,h,j,hj=>by
  simp only[o5,Bool.and_eq_true] at h;rcases List.mem_cons.1 hj with rfl|hj
  grind;exact dn h.2 j hj
theorem rZ{f:FuncId}{c:Call}{x:Operand}{first caps asz as0:List AV}{T:TypeId}{csA csB0:List AV}{dsA:List D}{mps0:List AO}{S:(Nat->Value)->AV->List AO->Prop}{id:Nat}{js':List Nat}(js:List Nat)(hjs:id::js'=js)(hop:o.op= .call c)(hx:c.callee= .value x)
  (hf:opv env x=some (.fn (.func f) first caps))(has:dw env c.args.toList=some asz)
  (hc:∀ky,Ctr P f as0 (.row T (kvs ky 0 dsA++csB0)::mps0) (eN js.length (S ky)))
  (hl:Les (first++asz++caps) (AV.rens js as0))(hla:AV.lts js.length as0=true)(hj:js.Nodup)
  {csB:List AV}(hB:AV.rens js csB0=csB)(hi:st[id]? =some (.row T (csA++csB))){mps0':List AO}(hren:mps0.map (AO.ren js)=mps0')(hwin:e9 js' st mps0')(hlt:AV.lts js.length csB0=true)(hlt2:dg js.length mps0=true)(hlive:Stabs mps0)
  (hvw:Vws st js csA dsA)(hw:Wt ops env o true)(ho:o.dst=some d)(hd:Nat.ble (d+1) e.n=true)
  (h:∀ky r new,S ky r new->∃csB1 mps1 r' csB1' mps1',new= .row T (kvs ky 0 dsA++csB1)::mps1/\r.stabb=true/\r.lt js.length=true/\AV.stabs csB1=true/\Stabs mps1/\AV.lts js.length csB1=true/\dg js.length mps1=true/\
   r.ren js=r'/\AV.rens js csB1=csB1'/\mps1.map (AO.ren js)=mps1'/\WL P e ops rest ((d,r')::env) (bM js (AO.row T (csA++csB1')::mps1') st) R):WL P e ops (o::rest) env st R:=λm φ a w hi'=>by
 obtain⟨vs,h1,h2⟩:=fE (P:=P) hi'.env hop hx hf has (hc λ_=>undef).1;unfold eX;rw[if_pos (hw _ _ _ _ hi'.env)];refine .inl ?_;simp only[Oper.wp,h2,Oper.upon,ho];subst hB;subst hren;refine(wX hjs hc hi'.sr h1 hl hla hj hi hwin hlt hlt2 hlive hvw λky r new hq=>?_).mono ?_;grind;rintro en w' ⟨ky,v,r,csB1,mps1,m',rfl,q1,q2,q3,q4⟩;obtain⟨csB2,mps2,_,_,_,k1,_,_,_,_,_,_,rfl,rfl,rfl,k8⟩:=h ky r _ q1;simp only[List.cons.injEq,AO.row.injEq,true_and] at k1;obtain⟨k1,rfl⟩:=k1;have:=List.append_cancel_left k1;subst this;exact k8 m' φ _ w' (hi'.ev_put q2 q3 (nbT hd) q4)
end
end Go.Sk
namespace Go.Sk
open Go.RowKit (Below)
section
variable{P:Program}{e:En}{ops:Array Oper}{rest:List Oper}{env:Env}{st:List AO}{R:Env->List AO->Prop}{κ:Ko}{x y:Code}
theorem Lv{a b:AV}(h:Le a b:=by
 repeat' (first|exact Le.refl _|exact Le.nil|exact Le.u _|exact Le.fs _|exact Les.refl _|exact trivial|refine aO ?_|refine an ?_|refine Le.fnc ?_ ?_|refine⟨?_,?_⟩)):Le a b:=h
theorem Lw{a b:List AV}(h:Les a b:=by
 repeat' (first|exact Le.refl _|exact Le.nil|exact Le.u _|exact Le.fs _|exact Les.refl _|exact trivial|refine aO ?_|refine an ?_|refine Le.fnc ?_ ?_|refine⟨?_,?_⟩)):Les a b:=h
theorem Rv{f:Func}{r:AV}(h:Res P f env st r:=by first|exact rs1 rfl (aN rfl)|exact rs2 rfl (aN rfl) (aN rfl)|exact ct rfl|exact rs3 rfl (aN rfl) (aN rfl) (aN rfl)):Res P f env st r:=h
theorem Ci{c:Operand}{t:Bool}{β:Sort _}{a b z:β}(h:(bif t then a else b)=z)(hc:opv env c=some (.d (.v (.bool t))))(h1:a=z->WC P e x κ env st)(h0:b=z->WC P e y κ env st):WC P e (.cond c x y) κ env st:=by grind [iS]
theorem Ix{α β:Type}{E Q:α->List D}{L:List α}{i:Int}{F:α->Option β}{r:β}{T n d:Nat}{bb:Bool}{x ix:Operand}{xr:AV}{kk:IntKind}{ty:TypeId}{pos:String}{after:Array Edge}(h:Option.bind (idx L i) F=some r)(hT:bE P T=some (n,bb))(hE:∀x,E x=Q x)(hx:opv env x=some xr)(hle:Le xr (.d (.sl (L.map E))))(hi:opv env ix=some (.d (.v (.int kk i))))(hd:Nat.ble (d+1) e.n=true)
  (k:∀x,idx L i=some x->F x=some r->WL P e ops rest ((d, .d (.pc (Q x)))::env) st R)(hn:∀x,(Q x).length=n:=by exact λ_=>rfl):WL P e ops (⟨some d, .indexAddr T x ix,ty,pos,after,none⟩::rest) env st R:=by
 obtain⟨z,hz,h⟩:=ac h;exact WL.qn (ak hT hx hle hi (ai hz) (au hE hz) (hn z)) hd (k z hz h)
theorem FA{a p:Prop}(ha:a)(h:a->p:=by intro h;obtain rfl:=inS h;exact ap Rv Lv):p:=h ha
theorem FB{a p:Prop}(ha:a)(h:a->p:=by intro h;subst h;exact ap Rv Lv):p:=h ha
variable{dd:Nat}{ty:TypeId}{pos:String}{after:Array Edge}
theorem Bd{T:TypeId}{x:Operand}{r:AV}{ds:List D}(hx:opv env x=some r)(hk:r.okc=true)(hc:Les r.cells (ds.map .d))(hd:Nat.ble (dd+1) e.n=true)(h:WL P e ops rest ((dd, .d (.pc ds))::env) st R):WL P e ops (⟨some dd, .box T x,ty,pos,after,none⟩::rest) env st R:=WL.s (jL hx hk hc).does (Wt.none rfl) rfl hd h
theorem Bx{T:TypeId}{x:Operand}{r:AV}(hx:opv env x=some r)(hk:r.okc=true)(hd:Nat.ble (dd+1) e.n=true)(h:WL P e ops rest ((dd, .pt st.length 0)::env) (st++ [.row T r.cells]) R):WL P e ops (⟨some dd, .box T x,ty,pos,after,none⟩::rest) env st R:=WL.s (b_box hx hk).does (Wt.none rfl) rfl hd h
theorem Al{T:TypeId}{vs:List Value}(hz:bq P T=some vs)(hd:Nat.ble (dd+1) e.n=true)(h:WL P e ops rest ((dd, .pt st.length 0)::env) (st++ [.row T (vs.map λv=> .d (.v v))]) R):WL P e ops (⟨some dd, .alloc T,ty,pos,after,none⟩::rest) env st R:=WL.s (xq hz).does (Wt.none rfl) rfl hd h
theorem Tv{a b:List AO}(h:SLe a b:=by first|exact SLe.refl _|repeat' (first|exact rfl|exact Le.refl _|exact Le.nil|exact Le.u _|exact Le.fs _|exact Les.refl _|exact trivial|refine aO ?_|refine an ?_|refine Le.fnc ?_ ?_|refine⟨?_,?_⟩)):SLe a b:=h
theorem Cb{b c:Bool}(h:b=c):D.v (Value.bool b)=D.v (Value.bool c):=by rw[h]
theorem Re{α:Type}{a:α}{l l':List α}(k:l=l'):a::l=a::l':=by rw[k]
theorem Kv{n:Nat}{l:List AO}(h:dg n l=true:=by first|exact rfl|repeat' (first|exact rfl|refine az rfl ?_|refine az (sJ _ _ _ _ _ _) ?_|refine az (rJ _ _ _ _ _ _) ?_|refine az (vh _ _ _ _ _ _ _ rfl) ?_)):dg n l=true:=h
theorem Sb{a b:Env}(h:Sub a b:=by
 repeat' (first|exact Sub.nil _|refine Sub.cons rfl ?_ ?_|exact Le.refl _|exact Le.nil|exact Le.u _|exact Le.fs _|exact Les.refl _|exact trivial|refine aO ?_|refine an ?_|refine Le.fnc ?_ ?_|refine⟨?_,?_⟩)):Sub a b:=h
section
universe uu
variable{β:Sort uu}{z:β}{n:Nat}{α0 α1 α2 α3 α4 α5 α6 α7 α8 α9 α10 α11 α12 α13 α14 α15 α16 α17 α18 α19 α20 α21 α22 α23 α24 α25 α26 α27 α28 α29 α30 α31 α32 α33 α34 α35:Type}
theorem Jn0(A:Env)(S:List AO){K:Unit->β}{F:(Unit->β)->β}(h:letk K F=z)(h1:∀k:Unit->β,F k=z->WC P e x (.lp (λu v=>k ()=z/\Sub (A) u/\SLe v (S)) κ) env st)(h2:K ()=z->WC P e y κ (A) (S)):WC P e (.seq x y) κ env st:=by refine cg _ (h1 K h) ?_;grind [WC.sub,WC.weak]
theorem En0{A:Env}{S:List AO}{k:Unit->β}(h:k ()=z)(h0:Sub (A) env:=by exact Sb)(h1:SLe st (S):=by exact Tv):WE P e .normal (.lp (λu v=>k ()=z/\Sub (A) u/\SLe v (S)) κ) env st:=du ⟨h,h0,h1⟩
theorem Jn1(A:α0->Env)(S:α0->List AO){K:α0->β}{F:(α0->β)->β}(h:letk K F=z)(h1:∀k:α0->β,F k=z->WC P e x (.lp (λu v=>∃x0,k x0=z/\Sub (A x0) u/\SLe v (S x0)) κ) env st)(h2:∀x0,K x0=z->WC P e y κ (A x0) (S x0)):WC P e (.seq x y) κ env st:=by refine cg _ (h1 K h) ?_;grind [WC.sub,WC.weak]
theorem Ln1(A:α0->Env)(S:α0->List AO)(L:Nat->α0->β){N:Nat}{i0:α0}(h:L N i0=z)(hz:∀x0,L 0 x0=z->False)(hs':∀n x0,L (n+1) x0=z->WC P e x (.lp (λu v=>∃y,(∃x0,L y x0=z/\Sub (A x0) u/\SLe v (S x0))/\y<n+1) κ) (A x0) (S x0))(h0:Sub (A i0) env:=by exact Sb)(h1:SLe st (S i0):=by exact Tv):WC P e (.loop x) κ env st:=by
 refine co (λn u v=>∃x0,L n x0=z/\Sub (A x0) u/\SLe v (S x0)) (λn=>n) N ⟨_,h,h0,h1⟩ ?_;rintro n u v ⟨x0,h,hs,hw⟩;rcases n with _|n
 simp_all;grind [WC.sub,WC.weak]
theorem En1{A:α0->Env}{S:α0->List AO}{k:α0->β}{i0:α0}(h:k i0=z)(h0:Sub (A i0) env:=by exact Sb)(h1:SLe st (S i0):=by exact Tv):WE P e .normal (.lp (λu v=>∃x0,k x0=z/\Sub (A x0) u/\SLe v (S x0)) κ) env st:=by grind [du]
theorem Fn1{A:α0->Env}{S:α0->List AO}{L:Nat->α0->β}{i0:α0}(h:L n i0=z)(h0:Sub (A i0) env:=by exact Sb)(h1:SLe st (S i0):=by exact Tv):WE P e .normal (.lp (λu v=>∃y,(∃x0,L y x0=z/\Sub (A x0) u/\SLe v (S x0))/\y<n+1) κ) env st:=by grind [du]
theorem Jn2(A:α0->α1->Env)(S:α0->α1->List AO){K:α0->α1->β}{F:(α0->α1->β)->β}(h:letk K F=z)(h1:∀k:α0->α1->β,F k=z->WC P e x (.lp (λu v=>∃x0 x1,k x0 x1=z/\Sub (A x0 x1) u/\SLe v (S x0 x1)) κ) env st)(h2:∀x0 x1,K x0 x1=z->WC P e y κ (A x0 x1) (S x0 x1)):WC P e (.seq x y) κ env st:=by refine cg _ (h1 K h) ?_;grind [WC.sub,WC.weak]
theorem Ln2(A:α0->α1->Env)(S:α0->α1->List AO)(L:Nat->α0->α1->β){N:Nat}{i0:α0}{i1:α1}(h:L N i0 i1=z)(hz:∀x0 x1,L 0 x0 x1=z->False)(hs':∀n x0 x1,L (n+1) x0 x1=z->WC P e x (.lp (λu v=>∃y,(∃x0 x1,L y x0 x1=z/\Sub (A x0 x1) u/\SLe v (S x0 x1))/\y<n+1) κ) (A x0 x1) (S x0 x1))(h0:Sub (A i0 i1) env:=by exact Sb)(h1:SLe st (S i0 i1):=by exact Tv):WC P e (.loop x) κ env st:=by
 refine co (λn u v=>∃x0 x1,L n x0 x1=z/\Sub (A x0 x1) u/\SLe v (S x0 x1)) (λn=>n) N ⟨_,_,h,h0,h1⟩ ?_;rintro n u v ⟨x0,x1,h,hs,hw⟩;rcases n with _|n
 simp_all;grind [WC.sub,WC.weak]
theorem En2{A:α0->α1->Env}{S:α0->α1->List AO}{k:α0->α1->β}{i0:α0}{i1:α1}(h:k i0 i1=z)(h0:Sub (A i0 i1) env:=by exact Sb)(h1:SLe st (S i0 i1):=by exact Tv):WE P e .normal (.lp (λu v=>∃x0 x1,k x0 x1=z/\Sub (A x0 x1) u/\SLe v (S x0 x1)) κ) env st:=by grind [du]
theorem Fn2{A:α0->α1->Env}{S:α0->α1->List AO}{L:Nat->α0->α1->β}{i0:α0}{i1:α1}(h:L n i0 i1=z)(h0:Sub (A i0 i1) env:=by exact Sb)(h1:SLe st (S i0 i1):=by exact Tv):WE P e .normal (.lp (λu v=>∃y,(∃x0 x1,L y x0 x1=z/\Sub (A x0 x1) u/\SLe v (S x0 x1))/\y<n+1) κ) env st:=by grind [du]
theorem Jn3(A:α0->α1->α2->Env)(S:α0->α1->α2->List AO){K:α0->α1->α2->β}{F:(α0->α1->α2->β)->β}(h:letk K F=z)(h1:∀k:α0->α1->α2->β,F k=z->WC P e x (.lp (λu v=>∃x0 x1 x2,k x0 x1 x2=z/\Sub (A x0 x1 x2) u/\SLe v (S x0 x1 x2)) κ) env st)(h2:∀x0 x1 x2,K x0 x1 x2=z->WC P e y κ (A x0 x1 x2) (S x0 x1 x2)):WC P e (.seq x y) κ env st:=by refine cg _ (h1 K h) ?_;grind [WC.sub,WC.weak]
theorem Ln3(A:α0->α1->α2->Env)(S:α0->α1->α2->List AO)(L:Nat->α0->α1->α2->β){N:Nat}{i0:α0}{i1:α1}{i2:α2}(h:L N i0 i1 i2=z)(hz:∀x0 x1 x2,L 0 x0 x1 x2=z->False)(hs':∀n x0 x1 x2,L (n+1) x0 x1 x2=z->WC P e x (.lp (λu v=>∃y,(∃x0 x1 x2,L y x0 x1 x2=z/\Sub (A x0 x1 x2) u/\SLe v (S x0 x1 x2))/\y<n+1) κ) (A x0 x1 x2) (S x0 x1 x2))(h0:Sub (A i0 i1 i2) env:=by exact Sb)(h1:SLe st (S i0 i1 i2):=by exact Tv):WC P e (.loop x) κ env st:=by
 refine co (λn u v=>∃x0 x1 x2,L n x0 x1 x2=z/\Sub (A x0 x1 x2) u/\SLe v (S x0 x1 x2)) (λn=>n) N ⟨_,_,_,h,h0,h1⟩ ?_;rintro n u v ⟨x0,x1,x2,h,hs,hw⟩;rcases n with _|n
 simp_all;grind [WC.sub,WC.weak]
theorem En3{A:α0->α1->α2->Env}{S:α0->α1->α2->List AO}{k:α0->α1->α2->β}{i0:α0}{i1:α1}{i2:α2}(h:k i0 i1 i2=z)(h0:Sub (A i0 i1 i2) env:=by exact Sb)(h1:SLe st (S i0 i1 i2):=by exact Tv):WE P e .normal (.lp (λu v=>∃x0 x1 x2,k x0 x1 x2=z/\Sub (A x0 x1 x2) u/\SLe v (S x0 x1 x2)) κ) env st:=by grind [du]
theorem Fn3{A:α0->α1->α2->Env}{S:α0->α1->α2->List AO}{L:Nat->α0->α1->α2->β}{i0:α0}{i1:α1}{i2:α2}(h:L n i0 i1 i2=z)(h0:Sub (A i0 i1 i2) env:=by exact Sb)(h1:SLe st (S i0 i1 i2):=by exact Tv):WE P e .normal (.lp (λu v=>∃y,(∃x0 x1 x2,L y x0 x1 x2=z/\Sub (A x0 x1 x2) u/\SLe v (S x0 x1 x2))/\y<n+1) κ) env st:=by grind [du]
theorem Jn4(A:α0->α1->α2->α3->Env)(S:α0->α1->α2->α3->List AO){K:α0->α1->α2->α3->β}{F:(α0->α1->α2->α3->β)->β}(h:letk K F=z)(h1:∀k:α0->α1->α2->α3->β,F k=z->WC P e x (.lp (λu v=>∃x0 x1 x2 x3,k x0 x1 x2 x3=z/\Sub (A x0 x1 x2 x3) u/\SLe v (S x0 x1 x2 x3)) κ) env st)(h2:∀x0 x1 x2 x3,K x0 x1 x2 x3=z->WC P e y κ (A x0 x1 x2 x3) (S x0 x1 x2 x3)):WC P e (.seq x y) κ env st:=by refine cg _ (h1 K h) ?_;grind [WC.sub,WC.weak]
theorem Ln4(A:α0->α1->α2->α3->Env)(S:α0->α1->α2->α3->List AO)(L:Nat->α0->α1->α2->α3->β){N:Nat}{i0:α0}{i1:α1}{i2:α2}{i3:α3}(h:L N i0 i1 i2 i3=z)(hz:∀x0 x1 x2 x3,L 0 x0 x1 x2 x3=z->False)(hs':∀n x0 x1 x2 x3,L (n+1) x0 x1 x2 x3=z->WC P e x (.lp (λu v=>∃y,(∃x0 x1 x2 x3,L y x0 x1 x2 x3=z/\Sub (A x0 x1 x2 x3) u/\SLe v (S x0 x1 x2 x3))/\y<n+1) κ) (A x0 x1 x2 x3) (S x0 x1 x2 x3))(h0:Sub (A i0 i1 i2 i3) env:=by exact Sb)(h1:SLe st (S i0 i1 i2 i3):=by exact Tv):WC P e (.loop x) κ env st:=by
 refine co (λn u v=>∃x0 x1 x2 x3,L n x0 x1 x2 x3=z/\Sub (A x0 x1 x2 x3) u/\SLe v (S x0 x1 x2 x3)) (λn=>n) N ⟨_,_,_,_,h,h0,h1⟩ ?_;rintro n u v ⟨x0,x1,x2,x3,h,hs,hw⟩;rcases n with _|n
 simp_all;grind [WC.sub,WC.weak]
theorem En4{A:α0->α1->α2->α3->Env}{S:α0->α1->α2->α3->List AO}{k:α0->α1->α2->α3->β}{i0:α0}{i1:α1}{i2:α2}{i3:α3}(h:k i0 i1 i2 i3=z)(h0:Sub (A i0 i1 i2 i3) env:=by exact Sb)(h1:SLe st (S i0 i1 i2 i3):=by exact Tv):WE P e .normal (.lp (λu v=>∃x0 x1 x2 x3,k x0 x1 x2 x3=z/\Sub (A x0 x1 x2 x3) u/\SLe v (S x0 x1 x2 x3)) κ) env st:=by grind [du]
theorem Fn4{A:α0->α1->α2->α3->Env}{S:α0->α1->α2->α3->List AO}{L:Nat->α0->α1->α2->α3->β}{i0:α0}{i1:α1}{i2:α2}{i3:α3}(h:L n i0 i1 i2 i3=z)(h0:Sub (A i0 i1 i2 i3) env:=by exact Sb)(h1:SLe st (S i0 i1 i2 i3):=by exact Tv):WE P e .normal (.lp (λu v=>∃y,(∃x0 x1 x2 x3,L y x0 x1 x2 x3=z/\Sub (A x0 x1 x2 x3) u/\SLe v (S x0 x1 x2 x3))/\y<n+1) κ) env st:=by grind [du]
theorem Jn5(A:α0->α1->α2->α3->α4->Env)(S:α0->α1->α2->α3->α4->List AO){K:α0->α1->α2->α3->α4->β}{F:(α0->α1->α2->α3->α4->β)->β}(h:letk K F=z)(h1:∀k:α0->α1->α2->α3->α4->β,F k=z->WC P e x (.lp (λu v=>∃x0 x1 x2 x3 x4,k x0 x1 x2 x3 x4=z/\Sub (A x0 x1 x2 x3 x4) u/\SLe v (S x0 x1 x2 x3 x4)) κ) env st)(h2:∀x0 x1 x2 x3 x4,K x0 x1 x2 x3 x4=z->WC P e y κ (A x0 x1 x2 x3 x4) (S x0 x1 x2 x3 x4)):WC P e (.seq x y) κ env st:=by refine cg _ (h1 K h) ?_;grind [WC.sub,WC.weak]
theorem Ln5(A:α0->α1->α2->α3->α4->Env)(S:α0->α1->α2->α3->α4->List AO)(L:Nat->α0->α1->α2->α3->α4->β){N:Nat}{i0:α0}{i1:α1}{i2:α2}{i3:α3}{i4:α4}(h:L N i0 i1 i2 i3 i4=z)(hz:∀x0 x1 x2 x3 x4,L 0 x0 x1 x2 x3 x4=z->False)(hs':∀n x0 x1 x2 x3 x4,L (n+1) x0 x1 x2 x3 x4=z->WC P e x (.lp (λu v=>∃y,(∃x0 x1 x2 x3 x4,L y x0 x1 x2 x3 x4=z/\Sub (A x0 x1 x2 x3 x4) u/\SLe v (S x0 x1 x2 x3 x4))/\y<n+1) κ) (A x0 x1 x2 x3 x4) (S x0 x1 x2 x3 x4))(h0:Sub (A i0 i1 i2 i3 i4) env:=by exact Sb)(h1:SLe st (S i0 i1 i2 i3 i4):=by exact Tv):WC P e (.loop x) κ env st:=by
 refine co (λn u v=>∃x0 x1 x2 x3 x4,L n x0 x1 x2 x3 x4=z/\Sub (A x0 x1 x2 x3 x4) u/\SLe v (S x0 x1 x2 x3 x4)) (λn=>n) N ⟨_,_,_,_,_,h,h0,h1⟩ ?_;rintro n u v ⟨x0,x1,x2,x3,x4,h,hs,hw⟩;rcases n with _|n
 simp_all;grind [WC.sub,WC.weak]
theorem En5{A:α0->α1->α2->α3->α4->Env}{S:α0->α1->α2->α3->α4->List AO}{k:α0->α1->α2->α3->α4->β}{i0:α0}{i1:α1}{i2:α2}{i3:α3}{i4:α4}(h:k i0 i1 i2 i3 i4=z)(h0:Sub (A i0 i1 i2 i3 i4) env:=by exact Sb)(h1:SLe st (S i0 i1 i2 i3 i4):=by exact Tv):WE P e .normal (.lp (λu v=>∃x0 x1 x2 x3 x4,k x0 x1 x2 x3 x4=z/\Sub (A x0 x1 x2 x3 x4) u/\SLe v (S x0 x1 x2 x3 x4)) κ) env st:=by grind [du]
theorem Fn5{A:α0->α1->α2->α3->α4->Env}{S:α0->α1->α2->α3->α4->List AO}{L:Nat->α0->α1->α2->α3->α4->β}{i0:α0}{i1:α1}{i2:α2}{i3:α3}{i4:α4}(h:L n i0 i1 i2 i3 i4=z)(h0:Sub (A i0 i1 i2 i3 i4) env:=by exact Sb)(h1:SLe st (S i0 i1 i2 i3 i4):=by exact Tv):WE P e .normal (.lp (λu v=>∃y,(∃x0 x1 x2 x3 x4,L y x0 x1 x2 x3 x4=z/\Sub (A x0 x1 x2 x3 x4) u/\SLe v (S x0 x1 x2 x3 x4))/\y<n+1) κ) env st:=by grind [du]
theorem Jn6(A:α0->α1->α2->α3->α4->α5->Env)(S:α0->α1->α2->α3->α4->α5->List AO){K:α0->α1->α2->α3->α4->α5->β}{F:(α0->α1->α2->α3->α4->α5->β)->β}(h:letk K F=z)(h1:∀k:α0->α1->α2->α3->α4->α5->β,F k=z->WC P e x (.lp (λu v=>∃x0 x1 x2 x3 x4 x5,k x0 x1 x2 x3 x4 x5=z/\Sub (A x0 x1 x2 x3 x4 x5) u/\SLe v (S x0 x1 x2 x3 x4 x5)) κ) env st)(h2:∀x0 x1 x2 x3 x4 x5,K x0 x1 x2 x3 x4 x5=z->WC P e y κ (A x0 x1 x2 x3 x4 x5) (S x0 x1 x2 x3 x4 x5)):WC P e (.seq x y) κ env st:=by refine cg _ (h1 K h) ?_;grind [WC.sub,WC.weak]
theorem Ln6(A:α0->α1->α2->α3->α4->α5->Env)(S:α0->α1->α2->α3->α4->α5->List AO)(L:Nat->α0->α1->α2->α3->α4->α5->β){N:Nat}{i0:α0}{i1:α1}{i2:α2}{i3:α3}{i4:α4}{i5:α5}(h:L N i0 i1 i2 i3 i4 i5=z)(hz:∀x0 x1 x2 x3 x4 x5,L 0 x0 x1 x2 x3 x4 x5=z->False)(hs':∀n x0 x1 x2 x3 x4 x5,L (n+1) x0 x1 x2 x3 x4 x5=z->WC P e x (.lp (λu v=>∃y,(∃x0 x1 x2 x3 x4 x5,L y x0 x1 x2 x3 x4 x5=z/\Sub (A x0 x1 x2 x3 x4 x5) u/\SLe v (S x0 x1 x2 x3 x4 x5))/\y<n+1) κ) (A x0 x1 x2 x3 x4 x5) (S x0 x1 x2 x3 x4 x5))(h0:Sub (A i0 i1 i2 i3 i4 i5) env:=by exact Sb)(h1:SLe st (S i0 i1 i2 i3 i4 i5):=by exact Tv):WC P e (.loop x) κ env st:=by
 refine co (λn u v=>∃x0 x1 x2 x3 x4 x5,L n x0 x1 x2 x3 x4 x5=z/\Sub (A x0 x1 x2 x3 x4 x5) u/\SLe v (S x0 x1 x2 x3 x4 x5)) (λn=>n) N ⟨_,_,_,_,_,_,h,h0,h1⟩ ?_;rintro n u v ⟨x0,x1,x2,x3,x4,x5,h,hs,hw⟩;rcases n with _|n
 simp_all;grind [WC.sub,WC.weak]
theorem En6{A:α0->α1->α2->α3->α4->α5->Env}{S:α0->α1->α2->α3->α4->α5->List AO}{k:α0->α1->α2->α3->α4->α5->β}{i0:α0}{i1:α1}{i2:α2}{i3:α3}{i4:α4}{i5:α5}(h:k i0 i1 i2 i3 i4 i5=z)(h0:Sub (A i0 i1 i2 i3 i4 i5) env:=by exact Sb)(h1:SLe st (S i0 i1 i2 i3 i4 i5):=by exact Tv):WE P e .normal (.lp (λu v=>∃x0 x1 x2 x3 x4 x5,k x0 x1 x2 x3 x4 x5=z/\Sub (A x0 x1 x2 x3 x4 x5) u/\SLe v (S x0 x1 x2 x3 x4 x5)) κ) env st:=by grind [du]
theorem Fn6{A:α0->α1->α2->α3->α4->α5->Env}{S:α0->α1->α2->α3->α4->α5->List AO}{L:Nat->α0->α1->α2->α3->α4->α5->β}{i0:α0}{i1:α1}{i2:α2}{i3:α3}{i4:α4}{i5:α5}(h:L n i0 i1 i2 i3 i4 i5=z)(h0:Sub (A i0 i1 i2 i3 i4 i5) env:=by exact Sb)(h1:SLe st (S i0 i1 i2 i3 i4 i5):=by exact Tv):WE P e .normal (.lp (λu v=>∃y,(∃x0 x1 x2 x3 x4 x5,L y x0 x1 x2 x3 x4 x5=z/\Sub (A x0 x1 x2 x3 x4 x5) u/\SLe v (S x0 x1 x2 x3 x4 x5))/\y<n+1) κ) env st:=by grind [du]
theorem Jn7(A:α0->α1->α2->α3->α4->α5->α6->Env)(S:α0->α1->α2->α3->α4->α5->α6->List AO){K:α0->α1->α2->α3->α4->α5->α6->β}{F:(α0->α1->α2->α3->α4->α5->α6->β)->β}(h:letk K F=z)(h1:∀k:α0->α1->α2->α3->α4->α5->α6->β,F k=z->WC P e x (.lp (λu v=>∃x0 x1 x2 x3 x4 x5 x6,k x0 x1 x2 x3 x4 x5 x6=z/\Sub (A x0 x1 x2 x3 x4 x5 x6) u/\SLe v (S x0 x1 x2 x3 x4 x5 x6)) κ) env st)(h2:∀x0 x1 x2 x3 x4 x5 x6,K x0 x1 x2 x3 x4 x5 x6=z->WC P e y κ (A x0 x1 x2 x3 x4 x5 x6) (S x0 x1 x2 x3 x4 x5 x6)):WC P e (.seq x y) κ env st:=by refine cg _ (h1 K h) ?_;grind [WC.sub,WC.weak]
theorem Ln7(A:α0->α1->α2->α3->α4->α5->α6->Env)(S:α0->α1->α2->α3->α4->α5->α6->List AO)(L:Nat->α0->α1->α2->α3->α4->α5->α6->β){N:Nat}{i0:α0}{i1:α1}{i2:α2}{i3:α3}{i4:α4}{i5:α5}{i6:α6}(h:L N i0 i1 i2 i3 i4 i5 i6=z)(hz:∀x0 x1 x2 x3 x4 x5 x6,L 0 x0 x1 x2 x3 x4 x5 x6=z->False)(hs':∀n x0 x1 x2 x3 x4 x5 x6,L (n+1) x0 x1 x2 x3 x4 x5 x6=z->WC P e x (.lp (λu v=>∃y,(∃x0 x1 x2 x3 x4 x5 x6,L y x0 x1 x2 x3 x4 x5 x6=z/\Sub (A x0 x1 x2 x3 x4 x5 x6) u/\SLe v (S x0 x1 x2 x3 x4 x5 x6))/\y<n+1) κ) (A x0 x1 x2 x3 x4 x5 x6) (S x0 x1 x2 x3 x4 x5 x6))(h0:Sub (A i0 i1 i2 i3 i4 i5 i6) env:=by exact Sb)(h1:SLe st (S i0 i1 i2 i3 i4 i5 i6):=by exact Tv):WC P e (.loop x) κ env st:=by
 refine co (λn u v=>∃x0 x1 x2 x3 x4 x5 x6,L n x0 x1 x2 x3 x4 x5 x6=z/\Sub (A x0 x1 x2 x3 x4 x5 x6) u/\SLe v (S x0 x1 x2 x3 x4 x5 x6)) (λn=>n) N ⟨_,_,_,_,_,_,_,h,h0,h1⟩ ?_;rintro n u v ⟨x0,x1,x2,x3,x4,x5,x6,h,hs,hw⟩;rcases n with _|n
 simp_all;grind [WC.sub,WC.weak]
theorem Fn7{A:α0->α1->α2->α3->α4->α5->α6->Env}{S:α0->α1->α2->α3->α4->α5->α6->List AO}{L:Nat->α0->α1->α2->α3->α4->α5->α6->β}{i0:α0}{i1:α1}{i2:α2}{i3:α3}{i4:α4}{i5:α5}{i6:α6}(h:L n i0 i1 i2 i3 i4 i5 i6=z)(h0:Sub (A i0 i1 i2 i3 i4 i5 i6) env:=by exact Sb)(h1:SLe st (S i0 i1 i2 i3 i4 i5 i6):=by exact Tv):WE P e .normal (.lp (λu v=>∃y,(∃x0 x1 x2 x3 x4 x5 x6,L y x0 x1 x2 x3 x4 x5 x6=z/\Sub (A x0 x1 x2 x3 x4 x5 x6) u/\SLe v (S x0 x1 x2 x3 x4 x5 x6))/\y<n+1) κ) env st:=by grind [du]
theorem Jn8(A:α0->α1->α2->α3->α4->α5->α6->α7->Env)(S:α0->α1->α2->α3->α4->α5->α6->α7->List AO){K:α0->α1->α2->α3->α4->α5->α6->α7->β}{F:(α0->α1->α2->α3->α4->α5->α6->α7->β)->β}(h:letk K F=z)(h1:∀k:α0->α1->α2->α3->α4->α5->α6->α7->β,F k=z->WC P e x (.lp (λu v=>∃x0 x1 x2 x3 x4 x5 x6 x7,k x0 x1 x2 x3 x4 x5 x6 x7=z/\Sub (A x0 x1 x2 x3 x4 x5 x6 x7) u/\SLe v (S x0 x1 x2 x3 x4 x5 x6 x7)) κ) env st)(h2:∀x0 x1 x2 x3 x4 x5 x6 x7,K x0 x1 x2 x3 x4 x5 x6 x7=z->WC P e y κ (A x0 x1 x2 x3 x4 x5 x6 x7) (S x0 x1 x2 x3 x4 x5 x6 x7)):WC P e (.seq x y) κ env st:=by refine cg _ (h1 K h) ?_;grind [WC.sub,WC.weak]
theorem Ln8(A:α0->α1->α2->α3->α4->α5->α6->α7->Env)(S:α0->α1->α2->α3->α4->α5->α6->α7->List AO)(L:Nat->α0->α1->α2->α3->α4->α5->α6->α7->β){N:Nat}{i0:α0}{i1:α1}{i2:α2}{i3:α3}{i4:α4}{i5:α5}{i6:α6}{i7:α7}(h:L N i0 i1 i2 i3 i4 i5 i6 i7=z)(hz:∀x0 x1 x2 x3 x4 x5 x6 x7,L 0 x0 x1 x2 x3 x4 x5 x6 x7=z->False)(hs':∀n x0 x1 x2 x3 x4 x5 x6 x7,L (n+1) x0 x1 x2 x3 x4 x5 x6 x7=z->WC P e x (.lp (λu v=>∃y,(∃x0 x1 x2 x3 x4 x5 x6 x7,L y x0 x1 x2 x3 x4 x5 x6 x7=z/\Sub (A x0 x1 x2 x3 x4 x5 x6 x7) u/\SLe v (S x0 x1 x2 x3 x4 x5 x6 x7))/\y<n+1) κ) (A x0 x1 x2 x3 x4 x5 x6 x7) (S x0 x1 x2 x3 x4 x5 x6 x7))(h0:Sub (A i0 i1 i2 i3 i4 i5 i6 i7) env:=by exact Sb)(h1:SLe st (S i0 i1 i2 i3 i4 i5 i6 i7):=by exact Tv):WC P e (.loop x) κ env st:=by
 refine co (λn u v=>∃x0 x1 x2 x3 x4 x5 x6 x7,L n x0 x1 x2 x3 x4 x5 x6 x7=z/\Sub (A x0 x1 x2 x3 x4 x5 x6 x7) u/\SLe v (S x0 x1 x2 x3 x4 x5 x6 x7)) (λn=>n) N ⟨_,_,_,_,_,_,_,_,h,h0,h1⟩ ?_;rintro n u v ⟨x0,x1,x2,x3,x4,x5,x6,x7,h,hs,hw⟩;rcases n with _|n
 simp_all;grind [WC.sub,WC.weak]
theorem Jn10(A:α0->α1->α2->α3->α4->α5->α6->α7->α8->α9->Env)(S:α0->α1->α2->α3->α4->α5->α6->α7->α8->α9->List AO){K:α0->α1->α2->α3->α4->α5->α6->α7->α8->α9->β}{F:(α0->α1->α2->α3->α4->α5->α6->α7->α8->α9->β)->β}(h:letk K F=z)(h1:∀k:α0->α1->α2->α3->α4->α5->α6->α7->α8->α9->β,F k=z->WC P e x (.lp (λu v=>∃x0 x1 x2 x3 x4 x5 x6 x7 x8 x9,k x0 x1 x2 x3 x4 x5 x6 x7 x8 x9=z/\Sub (A x0 x1 x2 x3 x4 x5 x6 x7 x8 x9) u/\SLe v (S x0 x1 x2 x3 x4 x5 x6 x7 x8 x9)) κ) env st)(h2:∀x0 x1 x2 x3 x4 x5 x6 x7 x8 x9,K x0 x1 x2 x3 x4 x5 x6 x7 x8 x9=z->WC P e y κ (A x0 x1 x2 x3 x4 x5 x6 x7 x8 x9) (S x0 x1 x2 x3 x4 x5 x6 x7 x8 x9)):WC P e (.seq x y) κ env st:=by refine cg _ (h1 K h) ?_;grind [WC.sub,WC.weak]
theorem Jn13(A:α0->α1->α2->α3->α4->α5->α6->α7->α8->α9->α10->α11->α12->Env)(S:α0->α1->α2->α3->α4->α5->α6->α7->α8->α9->α10->α11->α12->List AO){K:α0->α1->α2->α3->α4->α5->α6->α7->α8->α9->α10->α11->α12->β}{F:(α0->α1->α2->α3->α4->α5->α6->α7->α8->α9->α10->α11->α12->β)->β}(h:letk K F=z)(h1:∀k:α0->α1->α2->α3->α4->α5->α6->α7->α8->α9->α10->α11->α12->β,F k=z->WC P e x (.lp (λu v=>∃x0 x1 x2 x3 x4 x5 x6 x7 x8 x9 x10 x11 x12,k x0 x1 x2 x3 x4 x5 x6 x7 x8 x9 x10 x11 x12=z/\Sub (A x0 x1 x2 x3 x4 x5 x6 x7 x8 x9 x10 x11 x12) u/\SLe v (S x0 x1 x2 x3 x4 x5 x6 x7 x8 x9 x10 x11 x12)) κ) env st)(h2:∀x0 x1 x2 x3 x4 x5 x6 x7 x8 x9 x10 x11 x12,K x0 x1 x2 x3 x4 x5 x6 x7 x8 x9 x10 x11 x12=z->WC P e y κ (A x0 x1 x2 x3 x4 x5 x6 x7 x8 x9 x10 x11 x12) (S x0 x1 x2 x3 x4 x5 x6 x7 x8 x9 x10 x11 x12)):WC P e (.seq x y) κ env st:=by refine cg _ (h1 K h) ?_;grind [WC.sub,WC.weak]
theorem Ln14(A:α0->α1->α2->α3->α4->α5->α6->α7->α8->α9->α10->α11->α12->α13->Env)(S:α0->α1->α2->α3->α4->α5->α6->α7->α8->α9->α10->α11->α12->α13->List AO)(L:Nat->α0->α1->α2->α3->α4->α5->α6->α7->α8->α9->α10->α11->α12->α13->β){N:Nat}{i0:α0}{i1:α1}{i2:α2}{i3:α3}{i4:α4}{i5:α5}{i6:α6}{i7:α7}{i8:α8}{i9:α9}{i10:α10}{i11:α11}{i12:α12}{i13:α13}(h:L N i0 i1 i2 i3 i4 i5 i6 i7 i8 i9 i10 i11 i12 i13=z)(hz:∀x0 x1 x2 x3 x4 x5 x6 x7 x8 x9 x10 x11 x12 x13,L 0 x0 x1 x2 x3 x4 x5 x6 x7 x8 x9 x10 x11 x12 x13=z->False)(hs':∀n x0 x1 x2 x3 x4 x5 x6 x7 x8 x9 x10 x11 x12 x13,L (n+1) x0 x1 x2 x3 x4 x5 x6 x7 x8 x9 x10 x11 x12 x13=z->WC P e x (.lp (λu v=>∃y,(∃x0 x1 x2 x3 x4 x5 x6 x7 x8 x9 x10 x11 x12 x13,L y x0 x1 x2 x3 x4 x5 x6 x7 x8 x9 x10 x11 x12 x13=z/\Sub (A x0 x1 x2 x3 x4 x5 x6 x7 x8 x9 x10 x11 x12 x13) u/\SLe v (S x0 x1 x2 x3 x4 x5 x6 x7 x8 x9 x10 x11 x12 x13))/\y<n+1) κ) (A x0 x1 x2 x3 x4 x5 x6 x7 x8 x9 x10 x11 x12 x13) (S x0 x1 x2 x3 x4 x5 x6 x7 x8 x9 x10 x11 x12 x13))(h0:Sub (A i0 i1 i2 i3 i4 i5 i6 i7 i8 i9 i10 i11 i12 i13) env:=by exact Sb)(h1:SLe st (S i0 i1 i2 i3 i4 i5 i6 i7 i8 i9 i10 i11 i12 i13):=by exact Tv):WC P e (.loop x) κ env st:=by
 refine co (λn u v=>∃x0 x1 x2 x3 x4 x5 x6 x7 x8 x9 x10 x11 x12 x13,L n x0 x1 x2 x3 x4 x5 x6 x7 x8 x9 x10 x11 x12 x13=z/\Sub (A x0 x1 x2 x3 x4 x5 x6 x7 x8 x9 x10 x11 x12 x13) u/\SLe v (S x0 x1 x2 x3 x4 x5 x6 x7 x8 x9 x10 x11 x12 x13)) (λn=>n) N ⟨_,_,_,_,_,_,_,_,_,_,_,_,_,_,h,h0,h1⟩ ?_;rintro n u v ⟨x0,x1,x2,x3,x4,x5,x6,x7,x8,x9,x10,x11,x12,x13,h,hs,hw⟩;rcases n with _|n
 simp_all;grind [WC.sub,WC.weak]
end
theorem RO{id:Nat}{l:List Oper}(rs:List AV)(tc:List (List Nat))(es:List Nat)(L:List (List AO))(plan:List (List Nat×List Nat×List Nat))(hm:P.follows .mixedOrders=true)(hok:mY l tc es plan=true)(hrs:Nat.beq rs.length l.length=true)(hes:es.all (λy=>Nat.blt y l.length)=true)
  (hobs:Obs P e l rs env (λc=>List.getD (st::L) c []) es 0 l plan)(h:WE P e .normal κ (FL env (λk=>Nat.blt k l.length) (c8 l rs 0)) (List.getD (st::L) es.length []))(hnf:c9 l=true:=by kernel_rfl):WC P e (.region id l.toArray true) κ env st:=by grind [nq]
def yy(x:Nat):List Nat->List Nat
 |[]=> [x]
 |y::l=>bif Nat.beq x y then y::l else y::yy x l
def tcF(l:List Oper):List (List Nat):=l.foldl (λacc o=>acc++ [o.after.toList.foldl (λr e=>bif Region.binds .any e then(acc.getD e.on []).foldl (λr x=>yy x r) (yy e.on r) else r) []]) []
theorem RT{id:Nat}{l:List Oper}(rs:List AV)(es:List Nat)(L:List (List AO))(plan:List (List Nat×List Nat×List Nat))(hm:P.follows .mixedOrders=true)(hok:mY l (tcF l) es plan=true)(hrs:Nat.beq rs.length l.length=true)(hes:es.all (λy=>Nat.blt y l.length)=true)
  (hobs:Obs P e l rs env (λc=>List.getD (st::L) c []) es 0 l plan)(h:WE P e .normal κ (FL env (λk=>Nat.blt k l.length) (c8 l rs 0)) (List.getD (st::L) es.length []))(hnf:c9 l=true:=by kernel_rfl):WC P e (.region id l.toArray true) κ env st:=by grind [RO,tcF]
theorem O1 [T:Tys P]{l:List Oper}{rs:List AV}{base:Env}{sts:Nat->List AO}{k d c:Nat}{o:Oper}{pk bk:List Nat}{up:Bool}{r:AV}(hd:o.dst=some d)(h:∀F:Env,lB T.t e.n l.toArray (sts c) (kp l rs base pk bk++F) o=some ((d,r)::(kp l rs base pk bk++F)))(hr:rs[k]? =some r)(hu:up=false):ObC P e l rs base sts k o pk bk up [c]:=
 ⟨λF=>jX T.h (h F) (m5 hd hr (by rw[hu];rfl)),trivial⟩
theorem O2 [T:Tys P]{l:List Oper}{rs:List AV}{base:Env}{sts:Nat->List AO}{k d c c':Nat}{o:Oper}{pk bk:List Nat}{r:AV}(hd:o.dst=some d)(h:∀F:Env,lB T.t e.n l.toArray (sts c) (kp l rs base pk bk++F) o=some ((d,r)::(kp l rs base pk bk++F)))(hr:rs[k]? =some r)(hu:c'=c):Ob P e l rs base sts k o pk bk c c':=
 λF=>jX T.h (h F) (m5 hd hr (by rw[hu]))
def wV{α:Type}:List α->Option (List α)
 |[]=>some []
 |a::l=>match wV l with
  |some l'=>some (a::l')
  |none=>none
theorem sE{α:Type}:∀{l l':List α},wV l=some l'->l=l'
 |[],l',h=>inS h
 |a::l,l',h=>by
  dsimp only[wV] at h;split at h;rename_i hl;rw[sE hl];exact inS h;cases h
def yv:AO->Option AO
 | .row T cs=>match wV cs with
  |some c=>some (.row T c)
  |none=>none
 |o=>some o
theorem wU{o o':AO}(h:yv o=some o'):o=o':=by
 cases o with
 |row T cs=>dsimp only[yv] at h;split at h;rename_i hl;rw[sE hl];exact inS h;cases h
 |_=>exact inS h
def wT:List AO->Option (List AO)
 |[]=>some []
 |a::l=>match yv a,wT l with
  |some a',some l'=>some (a'::l')
  |_,_=>none
theorem sD:∀{l l':List AO},wT l=some l'->l=l'
 |[],l',h=>inS h
 |a::l,l',h=>by
  dsimp only[wT] at h;split at h;rename_i ha hl;rw[wU ha,sD hl];exact inS h;cases h
theorem St{st':List AO}(h:wT st=some st')(k:WL P e ops rest env st' R):WL P e ops rest env st R:=WL.st (sD h) k
end
end Go.Sk
namespace Go.Sk
open Go.RowKit (Below)
section
variable{P:Program}{e:En}{l:List Oper}{rs:List AV}{base:Env}{sts:List Bool->List AO->Prop}{es:List Nat}
end
end Go.Sk
namespace Go.Sk
open Go.RowKit (Below)
section
variable{P:Program}{env:Env}{st:List AO}{dst:Option Tmp}{ty:TypeId}{pos:String}{after:Array Edge}{guard:Option (Nat×Bool)}
theorem tz{κ α:Type}{T kt et:TypeId}{x:Operand}{id:Nat}(kf:κ->Value)(g:α->AV)(L:List (κ×α)){c:Call}(hT:P.underlying T=some (.map kt et))(hc:c=⟨.builtin .len, #[x], #[T]⟩)(hx:opv env x=some (.mp id))(hi:st[id]? =some (mpO kf g L)):
  Yields P env st ⟨dst, .call c,ty,pos,after,guard⟩ (.d (.v (.int .i64 L.length))):=λm φ a w hs he=>by
 obtain⟨b,h1,h2⟩:=gk he hx;obtain⟨b',hbb,h0,l,cl,g1,g2,g3⟩:=hs.obj id _ _ hi h1;simp only[Cz.blk.injEq] at hbb;subst hbb;have hlen:L.length=l.length:=by have:=congrArg List.length g2;simpa using this.symm
 refine⟨_,RAv,λw' hb=>?_⟩;subst hc;have e1:w'.heap[b]? =some (.map ⟨l⟩ cl):=by rw[hb.block b (cK g1)];exact g1
 have f1:(getObj b).run P w'= .ok (.map ⟨l⟩ cl) w':=by simp[getObj,Sem.run,e1]
 simp[execOp,resolve,invoke,builtin,Builtin.len_,h2,run_underlying hT,f1,goInt,hlen]
end
end Go.Sk
namespace Go.Sk
open Go.RowKit (Below)
section
variable{P:Program}{t:Ty}{env:Env}{st:List AO}{dst:Option Tmp}{ty:TypeId}{pos:String}{after:Array Edge}{guard:Option (Nat×Bool)}
theorem dQ{T len n:Nat}{bb:Bool}{x ix:Operand}{id ver off Te k:Nat}{es:List (List AV)}{kk:IntKind}{i:Int}(hT:ib P T=some (len,n,bb))(hx:opv env x=some (.pe id ver off))(hs0:st[id]? =some (.os Te k ver es))(hi:opv env ix=some (.d (.v (.int kk i))))
  (h0:0<=i)(h1:i<len):Yields P env st ⟨dst, .indexAddr T x ix,ty,pos,after,guard⟩ (.pe id ver (off+i.toNat*n)):=λm φ a w hs he=>by
 have hra:=bv he hx;obtain⟨ver0,y0,g1,g2,g3⟩:=hra;obtain⟨y,xs,e1,_⟩:=hs.obj id _ _ hs0 g1;obtain⟨rfl,rfl⟩:=e1;obtain⟨b,len',cap,rfl,hv⟩:=g3 rfl;exact⟨.pointer (some ⟨b,off+i.toNat*n,none⟩),by simp only[RA];exact⟨_,_,g1,Nat.le_refl _,λ_=>⟨b,_,_,rfl,rfl⟩⟩,λw' _=>by simp[execOp,hv,bt he hi,fh hT h0 h1]⟩
end
end Go.Sk
namespace Go.Sk
open Go.RowKit (Below)
theorem wR{st:List AO}{id ver T k:Nat}{es:List (List AV)}(h:st[id]? =some (.os T k ver es)):([AV.os id ver].all λx=>x.okS st&&Nat.beq x.cells.length 1)=true:=by simp[AV.okS,h,AV.cells]
theorem sf{m φ w}{x:D}{v:Value}(h:D.gnd x=some v):RA m φ w (.d x) v:=by simp only[RA];exact rN h
section
variable{P:Program}{e:En}{ops:Array Oper}{l rest:List Oper}{K:Ko}{env:Env}{st:List AO}{R:Env->List AO->Prop}{dst:Option Tmp}{ty:TypeId}{pos:String}{after:Array Edge}{guard:Option (Nat×Bool)}
theorem lq{κ α:Type}[DecidableEq κ]{T kt et:TypeId}{x ki:Operand}{id:Nat}(kf:κ->Value)(g:α->AV)(L:List (κ×α)){k:κ}{z:α}{zv:Value}{ka:AV}{vs:List Value}{r:AV}{b:Bool}(hT:P.underlying T=some (.map kt et))(hK:KeyS P kt kf)
  (hx:opv env x=some (.mp id))(hi:st[id]? =some (mpO kf g L))(hk:opv env ki=some ka)(hl:Le ka (.d (.ag (vs.map D.v))))(hkf:kf k= .agg ⟨vs⟩)(hz:(P.info? et).bind (·.zero)=some zv)(hgz:∀m φ w,RA m φ w (g z) zv)(hr:g ((bT L k).getD z)=r)(hb:(bT L k).isSome=b):
  Yields P env st ⟨dst, .lookup T x ki true,ty,pos,after,guard⟩ (.tu [r, .d (.v (.bool b))]):=λm φ a w hs he=>by
 subst hr;subst hb;obtain⟨b,h1,h2⟩:=gk he hx;obtain⟨b',hbb,h0,l,cl,g1,g2,g3,g4⟩:=hs.obj id _ _ hi h1;simp only[Cz.blk.injEq] at hbb;subst hbb;have hkeys:l.map (·.key)=L.map (λp=>kf p.1):=by rw[g2];simp
 have hkv:=(me he hk hl).trans hkf.symm;have hlt:=cK g1;have tu:∀{x:AV}{v:Value}{c:Bool},RA m φ w x v->RA m φ w (.tu [x, .d (.v (.bool c))]) (.tuple #[v, .bool c]):=λh=>by
  grind [RA,bp,RAv,cD]
 cases hinf:P.info? et with
 |none=>simp[hinf] at hz
 |some i=>
  simp only[hinf,bnS] at hz;rcases eV hK k L l 0 hkeys with⟨q1,q2,_⟩|⟨j,e,y,q1,q2,q3,q4,q5,_⟩
  refine⟨.tuple #[zv, .bool false],by rw[q1,Option.getD_none];exact tu (hgz m φ w),λw' hb=>?_⟩;have g1':w'.heap[b]? =some (.map ⟨l⟩ cl):=by rw[hb.block b hlt];exact g1
  have hfk:=run_findKey_eq (P:=P) w' hK.wide (kf k) l;rw[q2 w'] at hfk;simp[execOp,Instr.lookup,h2,hkv,run_underlying hT,MapKept.run_getObj_map g1',hK.chk,hfk,zeroValue,typeInfo,hinf,hz,Result.andThen];have hval:RA m φ w (g y) e.val:=by
   have:(((L.map λp=>(kf p.1,g p.2)).map (·.2)))[j]? =some (g y):=by simp[q2]
   grind [cP]
  refine⟨.tuple #[e.val, .bool true],by rw[q3,Option.getD_some];exact tu hval,λw' hb=>?_⟩;have g1':w'.heap[b]? =some (.map ⟨l⟩ cl):=by rw[hb.block b hlt];exact g1
  have hfk:=run_findKey_eq (P:=P) w' hK.wide (kf k) l;rw[q5 w'] at hfk;simp[execOp,Instr.lookup,h2,hkv,run_underlying hT,MapKept.run_getObj_map g1',hK.chk,hfk,Result.andThen]
theorem mR{κ α:Type}[DecidableEq κ]{T kt et:TypeId}{o:Oper}{x ki v:Operand}{id:Nat}(kf:κ->Value)(g:α->AV)(L:List (κ×α)){k:κ}{u:α}{ka:AV}{vs:List Value}(ho:(o=⟨dst, .insert T x ki v,ty,pos,after,guard⟩)\/(o=⟨dst, .mapUpdate T x ki v,ty,pos,after,guard⟩))(hT:P.underlying T=some (.map kt et))(hK:KeyS P kt kf)
  (hx:opv env x=some (.mp id))(hi:st[id]? =some (mpO kf g L))(hk:opv env ki=some ka)(hl:Le ka (.d (.ag (vs.map D.v))))(hkf:kf k= .agg ⟨vs⟩){r0:AV}(hv:opv env v=some r0)(hlv:Le r0 (g u)):
  fP P env st o (.d (.v undef)) (st.set id (mpO kf g (bP L k u))):=λm φ a w hs he=>by
 obtain⟨b,h1,h2⟩:=gk he hx;obtain⟨b',hbb,h0,l,cl,g1,g2,g3,g4⟩:=hs.obj id _ _ hi h1;simp only[Cz.blk.injEq] at hbb;subst hbb;have hkeys:l.map (·.key)=L.map (λp=>kf p.1):=by rw[g2];simp
 obtain⟨l',clock',r1,r2,r3,r4⟩:=hZ (P:=P) (k:=k) (u:=a.eval v) (w:=w) hT hK g1 hkeys u;have hru:=hlv m φ w _ (bv he hv);have hvals:RAs m φ w (((bP L k u).map λp=>(kf p.1,g p.2)).map (·.2)) (l'.map (·.val)):=by grind [ba,bp,cD,List.map_set,kz]
 obtain⟨k1,k2⟩:=rG (clock':=clock') hs hi h1 (by rw[r2];simp) hvals (r4 g4);refine⟨undef,_,m,φ, .inr ⟨?_,rfl⟩,k1,k2,RAv⟩;have hkv:=(me he hk hl).trans hkf.symm;rcases ho with rfl|rfl<;>simp[execOp,h2,hkv,r1]
theorem bB{T:TypeId}{x:Operand}{id off:Nat}{T':TypeId}{cs:List AV}{y:Value}{z:D}(hx:opv env x=some (.pt id off))(hs:st[id]? =some (.row T' cs))(hT:aX P T=some false)(hr:cs[off]? =some (.kv y z)):
  Yields P env st ⟨dst, .load T x,ty,pos,after,guard⟩ (.d z):=λm φ a w hsr he=>by
 obtain⟨v,h1,h2⟩:=q8 (P:=P) (dst:=dst) (ty:=ty) (pos:=pos) (after:=after) (guard:=guard) hx hs hT hr m φ a w hsr he;exact⟨v,Le.kv y z m φ w v h1,h2⟩
theorem fU{α:Type}{E:α->List D}{L:List (List α)}{M:List α}{v:α}{T:TypeId}{x:Operand}{fid j vf T' k:Nat}{i:Int}(hx:opv env x=some (.pem fid j vf (i.toNat*k)))(hi:st[fid]? =some (.fam T' k vf (bu E L)))(hj:L[j]? =some M)(hv:idx M i=some v)(hE:∀x,(E x).length=k)(hn:bI P T=some k)(hT:aX P T=some true):
  Yields P env st ⟨dst, .load T x,ty,pos,after,guard⟩ (.d (.ag (E v))):=λm φ a w hs he=>by
 obtain⟨ys,b,len,cap,xs,h1,h2,h3,h4,h5,h6,h7⟩:=qe hs (bv he hx) hi hj;have hL:M[i.toNat]? =some v:=bg hv;obtain⟨l1,l2,f1,f2,_⟩:=iV (R:=E) hE hL;have hve:(aS E v).length=k:=by grind
 have hcut:((M.map (aS E)).flatten.drop (i.toNat*k)).take k=aS E v:=by grind
 have hcells:RAs m φ w (aS E v) ((xs.drop (i.toNat*k)).take k):=by grind [cW,cX]
 have hlen2:=aL hcells;refine⟨.agg ⟨(xs.drop (i.toNat*k)).take k⟩,?_,λw' hb=>?_⟩;exact an (xs:=aS E v) (Les.refl _) m φ w _ (by simp only[RA];exact⟨_,rfl,hcells⟩);have hlt:=(h4.lt b rfl).2;have:=ez (P:=P) (w:=w') (b:=b) (off:=i.toNat*k) (vs:=(xs.drop (i.toNat*k)).take k) hT hn oM (λj v hj=>by
  rw[bx (hb.block b hlt)];refine dG h4 ?_;rw[List.getElem?_take] at hj;split at hj;simpa using hj;simp at hj)
 simp[execOp,Instr.loadAt,Instr.sureAddr,h3,this]
theorem fV{T:TypeId}{x:Operand}{id ver off fo N n T' k:Nat}{α β:Type}{R:α->List D}{L:List α}{i:Int}{z:α}(E:β->List D)(F:Nat->β){q:Int}(hE:∀x,(E x).length=2)(hN:N=n*2)(hx:opv env x=some (.pe id ver (off+fo+q.toNat*2)))(hoff:off=i.toNat*k)(hs:st[id]? =some (.os T' k ver (L.map (aS R))))(hT:aX P T=some true)(hn:bI P T=some 2)(hR:∀x,(R x).length=k)(hi:idx L i=some z)
  (hlen:Nat.ble (fo+N) k=true)(h:((aS R z).drop fo).take N=br N (λj=> .d (aY E F j)))(hg:bS n q=true):
  Yields P env st ⟨dst, .load T x,ty,pos,after,guard⟩ (.d (.ag (E (F q.toNat)))):=λm φ a w hsr he=>by
 have hle:=nbT hlen;have h3:=(dm hg).2;obtain⟨v,h1,h2⟩:=ik (P:=P) (dst:=dst) (ty:=ty) (pos:=pos) (after:=after) (guard:=guard) (fo:=fo+q.toNat*2) hx (by rw[hoff];omega) hs hT hn hR hi (vO hE hN h hg) (Nat.ble_eq_true_of_le oM) m φ a w hsr he;exact⟨v,an (Les.refl _) m φ w v h1,h2⟩
theorem pf{T:TypeId}{x y:Operand}{id ver off fo N n T' k:Nat}{α β:Type}{R:α->List D}{L:List α}{i:Int}{z:α}(E:β->List D)(F:Nat->β)(v:β)(z':α){q:Int}{r0:AV}(hE:∀x,(E x).length=2)(hN:N=n*2)(hx:opv env x=some (.pe id ver (off+fo+q.toNat*2)))(hoff:off=i.toNat*k)(hs:st[id]? =some (.os T' k ver (L.map (aS R))))(hy:opv env y=some r0)(hle:Le r0 (.d (.ag (E v))))(hk1:((E v).map AV.d).all AV.ok1=true)
  (hn:bI P T=some 2)(hR:∀x,(R x).length=k)(hi:idx L i=some z)(hlen:Nat.ble (fo+N) k=true)(h:((aS R z).drop fo).take N=br N (λj=> .d (aY E F j)))(hg:bS n q=true)
  (hz':aS R z'=(aS R z).take fo++(br N (λj=> .d (aY E (bn F q.toNat v) j))++(aS R z).drop (fo+N))):
  fP P env st ⟨dst, .store T x y,ty,pos,after,guard⟩ (.d (.v undef)) (st.set id (.os T' k ver ((L.set i.toNat z').map (aS R)))):=by
 have hle2:=nbT hlen;have h3:=(dm hg).2;have hzl:(aS R z).length=k:=by grind
 exact cR (fo:=fo+q.toNat*2) (r:= .d (.ag (E v))) z' hx (by rw[hoff];omega) hs hy hle rfl rfl hk1 hn (by show((E v).map AV.d).length=2;rw[List.length_map,hE]) hR hi (Nat.ble_eq_true_of_le oM) (vN F hE hN (by rw[hzl];exact hlen) h hg v hz')
end
end Go.Sk
namespace Go.Sk
theorem ej{P:Program}{f:FuncId}{asz:List AV}{st:List AO}{Q Q':AV->List AO->Prop}(h:Ctr P f asz st Q)(hq:∀r st',Q r st'->Q' r st'):Ctr P f asz st Q':=
 ⟨h.1,λm φ w vs hs ha=>(h.2 m φ w vs hs ha).mono λen w' he=>by
  obtain⟨v,r,st',m',φ',h1,h2,h3⟩:=he;exact⟨v,r,st',m',φ',h1,hq _ _ h2,h3⟩⟩
end Go.Sk
namespace Go.Sk
open Go.RowKit (Below)
theorem km{k:Nat}:∀{es:List (List AV)}{i:Nat}{r:List AV},(∀e∈es,e.length=k)->es[i]? =some r->∃l1 l2,es.flatten=l1++r++l2/\l1.length=i*k/\∀r',(es.set i r').flatten=l1++r'++l2
 |[],i,r,_,h=>by simp at h
 |e::es,0,r,_,h=>by
  simp only[List.getElem?_cons_zero,aK] at h;subst h;exact⟨[],es.flatten,sM,sM,λr'=>sM⟩
 |e::es,i+1,r,hk,h=>by
  obtain⟨l1,l2,h1,h2,h3⟩:=km (λe he=>hk e (List.mem_cons_of_mem _ he)) h;grind
section
variable{P:Program}{e:En}{ops:Array Oper}{l:List Oper}{env:Env}{st:List AO}{R:Env->List AO->Prop}{K:Ko}
theorem qt(al id off:Nat){Ta ka va T k ver:Nat}{ds:List (List D)}{ea es es':List (List AV)}(ha:st[al]? =some (.os Ta ka va ea))(hea:ea=ds.map λe=>e.map AV.d)(hs:st[id]? =some (.os T k ver es))(hne:Nat.beq id al=false)
  (hc:es.flatten[off]? =some (.os al va))(hes:es'.flatten=es.flatten.set off (.d (.sl ds)))(hel:es'.length=es.length)(hek:∀e∈es',e.length=k):
  Gh e env st env ((st.set al .dead).set id (.os T k ver es')):=λm φ a w hi=>by
 subst hea;have hne':al≠id:=by grind
 obtain⟨c,hcm⟩:∃c,m[al]? =some c:=by
  have:al<m.length:=by rw[hi.sr.len];exact(giS.1 ha).1
  exact⟨_,geG this⟩
 obtain⟨y,xs,rfl,_⟩:=hi.sr.obj al _ _ ha hcm;obtain⟨φ',f1,f2,f3⟩:=n8 hi.sr ha hcm;have h3:=hi.go f1 f2;have hs2:(st.set al AO.dead)[id]? =some (.os T k ver es):=by grind
 refine⟨m,φ',h3.sr.alter hs2 rfl ?_,h3.ev,h3.env,h3.sz,h3.df⟩;rintro c hc2 ⟨y2,vs,rfl,q2,q3,q4,q5⟩;obtain⟨v',p1,p2⟩:=cP q3 hc;obtain⟨v0,y0,k1,k2,k3⟩:=p2;rw[hcm] at k1;obtain⟨rfl,rfl⟩:=k1;have:=k3 rfl;subst this;exact⟨y2,vs,rfl,by rw[hel];exact q2,by rw[hes];exact kA q3 p1 (by simpa[RA] using f3),hek,q5⟩
theorem iG{α:Type}{f:α->List AV}{L:List α}{i:Int}{x:α}(h:idx L i=some x):(L.map f)[i.toNat]? =some (f x):=by rw[List.getElem?_map,bg h];rfl
abbrev ji{α:Type}(R:α->List D)(L:List α)(i:Int)(x:α)(fo al va:Nat):List (List AV):=List.set (L.map (aS R)) (Int.toNat i) (List.set (aS R x) fo (.os al va))
theorem tP{α:Type}{R:α->List D}{L:List α}{i:Int}{x:α}{fo al va k:Nat}(hR:∀x,(R x).length=k):∀e∈ji R L i x fo al va,e.length=k:=by grind
theorem nV{α:Type}{R:α->List D}{L:List α}{i:Int}{x:α}{fo al va k:Nat}(hR:∀x,(R x).length=k)(hi:idx L i=some x)(hf:Nat.blt fo k=true):(ji R L i x fo al va).flatten[i.toNat*k+fo]? =some (.os al va):=by
 have hf':fo<k:=by simp_all
 obtain⟨l1,l2,h1,h2,h3⟩:=km (k:=k) (es:=L.map (aS R)) (λe he=>by obtain⟨z,_,rfl⟩:=List.mem_map.1 he;rw[aS,List.length_map,hR]) (iG hi);grind
theorem vC{α:Type}{Re:α->List D}{L:List α}{i:Int}{x:α}(x':α)(al id fo:Nat){Ta ka va T k ver:Nat}{ds:List (List D)}{ea:List (List AV)}(ha:st[al]? =some (.os Ta ka va ea))(hea:ea=ds.map λe=>e.map AV.d)(hs:st[id]? =some (.os T k ver (ji Re L i x fo al va)))(hne:Nat.beq id al=false)
  (hR:∀x,(Re x).length=k)(hi:idx L i=some x)(hf:Nat.blt fo k=true)(hx:aS Re x'=List.set (aS Re x) fo (.d (.sl ds))):
  Gh e env st env ((st.set al .dead).set id (.os T k ver ((List.set L i.toNat x').map (aS Re)))):=by
 have hf':fo<k:=by simp_all
 refine qt al id (i.toNat*k+fo) ha hea hs hne (nV hR hi hf) ?_ sM (λe he=>by obtain⟨z,_,rfl⟩:=List.mem_map.1 he;rw[aS,List.length_map,hR]);obtain⟨l1,l2,h1,h2,h3⟩:=km (k:=k) (es:=L.map (aS Re)) (λe he=>by obtain⟨z,_,rfl⟩:=List.mem_map.1 he;rw[aS,List.length_map,hR]) (iG hi);have hxl:(aS Re x).length=k:=by grind
 rw[List.map_set,h3,ji,h3,hx,List.set_append_left _ _ (by rw[List.length_append,List.length_set];omega),List.set_append_right _ _ oM,h2,show i.toNat*k+fo - i.toNat*k=fo from by omega,List.set_set]
end
section
variable{P:Program}{env:Env}{st:List AO}{dst:Option Tmp}{ty:TypeId}{pos:String}{after:Array Edge}{guard:Option (Nat×Bool)}
theorem pg{α:Type}{Re:α->List D}{L:List α}{i:Int}{x:α}{T:TypeId}{px y:Operand}{id ver off fo T' k al va Ta ka:Nat}{ea:List (List AV)}(hx:opv env px=some (.pe id ver off))(hoff:off=i.toNat*k+fo)(hs:st[id]? =some (.os T' k ver (L.map (aS Re))))(hy:opv env y=some (.os al va))(ha:st[al]? =some (.os Ta ka va ea))
  (hn:bI P T=some 1)(hR:∀x,(Re x).length=k)(hi:idx L i=some x)(hf:Nat.blt fo k=true):
  fP P env st ⟨dst, .store T px y,ty,pos,after,guard⟩ (.d (.v undef)) (st.set id (.os T' k ver (ji Re L i x fo al va))):=by
 subst hoff;have hf':fo<k:=by simp_all
 obtain⟨l1,l2,h1,h2,h3⟩:=km (k:=k) (es:=L.map (aS Re)) (λe he=>by obtain⟨z,_,rfl⟩:=List.mem_map.1 he;rw[aS,List.length_map,hR]) (iG hi);have hxl:(aS Re x).length=k:=by grind
 refine lZ hx hs hy (dY ha) hn (by rw[h1];simp only[List.length_append];omega) ?_ sM (tP hR);rw[ji,h3,h1,List.set_eq_take_append_cons_drop,if_pos oM];have e1:(l1++aS Re x++l2).take (i.toNat*k+fo)=l1++(aS Re x).take fo:=by rw[List.append_assoc,List.take_append,List.take_of_length_le oM,h2,show i.toNat*k+fo - i.toNat*k=fo from by omega,List.take_append_of_le_length oM]
 have e2:(l1++aS Re x++l2).drop (i.toNat*k+fo+1)=(aS Re x).drop (fo+1)++l2:=by rw[List.append_assoc,List.drop_append,h2,List.drop_eq_nil_of_le oM,List.nil_append,show i.toNat*k+fo+1 - i.toNat*k=fo+1 from by omega,List.drop_append_of_le_length oM]
 rw[e1,e2];simp
theorem il{α:Type}{Re:α->List D}{L:List α}{i:Int}{x:α}{T:TypeId}{px:Operand}{id ver off fo T' k al va:Nat}(hx:opv env px=some (.pe id ver off))(hoff:off=i.toNat*k+fo)(hs:st[id]? =some (.os T' k ver (ji Re L i x fo al va)))(hT:aX P T=some false)(hR:∀x,(Re x).length=k)(hi:idx L i=some x)(hf:Nat.blt fo k=true):
  Yields P env st ⟨dst, .load T px,ty,pos,after,guard⟩ (.os al va):=by
 subst hoff;exact c6 hx hs hT (nV hR hi hf)
theorem bD{x:Operand}{id ver off Te k:Nat}{es:List (List AV)}(hx:opv env x=some (.pe id ver off))(hi:st[id]? =some (.os Te k ver es)):Yields P env st ⟨dst, .nilCheck x,ty,pos,after,guard⟩ (.pe id ver off):=λm φ a w hs he=>by
 obtain⟨p,h2⟩:=yu hs he hx hi;refine⟨_,bv he hx,λw' _=>?_⟩;simp[execOp,h2]
end
end Go.Sk
namespace Go.Sk
open Go.RowKit (Below)
theorem uS{m φ st w}{id b:Nat}{T:TypeId}{ds:List D}(hs:SR m φ st w)(hi:st[id]? =some (.row T (ds.map AV.d)))(hc:m[id]? =some (.blk b)):
  ∃φ',Ev m φ w m φ' w/\SR m φ' (st.set id .dead) w/\RPs φ' w ds b 0:=by
 obtain⟨b',e1,h1,vs,h2,h3⟩:=hs.obj id _ _ hi hc;simp only[Cz.blk.injEq] at e1;subst e1;let φ':Nat->Nat:=λx=>if x=b then ds.length else φ x
 have hF:Fz φ w φ' w:=λx off c g1 g2=>by
  grind
 have hk:∀x,x<w.heap.size->¬(Cz.blk b).has x->w.heap[x]? =w.heap[x]?/\φ' x=φ x:=λx _ hb=>⟨rfl,if_neg λe=>hb e.symm⟩;have hbl:b<w.heap.size:=by grind
 have hlt:∀x,w.heap.size<=x->φ' x=0:=λx hx=>by
  show(if x=b then ds.length else φ x)=0;rw[if_neg oM];exact hs.lt x hx
 obtain⟨k1,k2⟩:=fY (o':= .dead) (c':= .blk b) hs hi rfl hc (Cz.le_refl _) rfl rfl rfl (Nat.le_refl _) hk hF hlt (λb hb=> .inl hb) trivial;have hset:m.set id (.blk b)=m:=List.ext_getElem? λi=>by
  grind
 rw[hset] at k1 k2;refine⟨φ',k1,k2,?_⟩;have h4:RFs φ' w ds vs:=RFs.mono hF _ _ (cV h3);refine dH h4 λj v hj=>?_;have hl:=fL h4;have hj2:=gn hj;refine⟨by show 0+j<(if b=b then ds.length else φ b);rw[if_pos rfl];omega,?_⟩;simpa[World.cell?,h2] using hj
section
variable{P:Program}{e:En}{ops:Array Oper}{l:List Oper}{env:Env}{st:List AO}{R:Env->List AO->Prop}{K:Ko}
theorem w8(t id:Nat){T:TypeId}{ds:List D}{cs:List AV}(hs:st[id]? =some (.row T cs))(hcs:cs=ds.map AV.d)(ht:env.get t=some (.pt id 0)):Gh e env st ((t, .d (.pc ds))::env) (st.set id .dead):=λm φ a w hi=>by
 subst hcs;obtain⟨v,g1,g2⟩:=hi.env t _ ht;obtain⟨b,k1,rfl⟩:=g2;obtain⟨φ',f1,f2,f3⟩:=uS hi.sr hs k1;have h3:=hi.go f1 f2;refine⟨m,φ',h3.sr,h3.ev,⟨λs x hx=>?_,h3.env.gl⟩,h3.sz,h3.df⟩;unfold Env.get at hx;cases hb:Nat.beq s t with
 |true=>grind [nbE,RA,RD]
 |false=>rw[hb] at hx;exact h3.env s x hx
end
end Go.Sk
namespace Go.Sk
open Go.RowKit (Below)
def xp(L:List Int):ByteArray:=⟨(L.map λn=>UInt8.ofNat n.toNat).toArray⟩
def wb(L:List Int):Bool:=L.all λn=>decide (0<=n)&&decide (n<256)
section
variable{P:Program}{env:Env}{st:List AO}{dst:Option Tmp}{ty:TypeId}{pos:String}{after:Array Edge}{guard:Option (Nat×Bool)}
theorem uB{S T e:TypeId}{x:Operand}{xr:AV}{L:List Int}{E:Int->List D}(hS:P.underlying S=some (.slice e))(he8:P.underlying e=some (.int .u8))(hT:P.underlying T=some .string)(hx:opv env x=some xr)(hle:Le xr (.d (.sl (L.map E))))(hE:∀n,E n=[.v (.int .u8 n)])(hL:wb L=true):
  Yields P env st ⟨dst, .convert S T x,ty,pos,after,guard⟩ (.d (.v (.string (xp L)))):=λm φ a w hs he=>by
 have h:=oV he hx hle;refine⟨.string (xp L),RAv,λw' hbl=>?_⟩;rcases h with⟨h0,ad,cap,h2,h3⟩|⟨b,off,k,cap,h2,h3,h4,h5⟩
 have hn:L=[]:=List.map_eq_nil_iff.1 h0;subst hn;cases ad with
 |none=>have h6:=h3 rfl;subst h6;have:=run_convert_bytes_string (P:=P) w' S T e none 0 0 hS he8 hT;simp[execOp,h2,this,Conv.bytesToString];rfl
 |some ad=>have:=run_convert_bytes_back (P:=P) w' S T e ad cap [] hS he8 hT (λj hj=>by simp at hj);simp only[List.length_nil] at this;simp[execOp,h2,this];rfl
 have hc:∀j (hj:j<(L.map λn=>UInt8.ofNat n.toNat).length),w'.cell? ((⟨b,off,none⟩:Addr).add j)=some (.int .u8 ((L.map λn=>UInt8.ofNat n.toNat)[j].toNat:Int)):=λj hj=>by
  have hjl:j<L.length:=by simpa using hj
  have hk:k=1:=by have:=h4 (E L[j]) (List.mem_map_of_mem (List.getElem_mem hjl));grind
  subst hk;have h6:=po h5 (i:=j) (e:=E L[j]) (by rw[List.getElem?_map,geG hjl];rfl);rw[hE] at h6;simp only[RPs,Nat.mul_one] at h6;obtain⟨⟨_,c,h7,h8⟩,_⟩:=h6;subst h8;have hlt:b<w.heap.size:=by
   rcases Nat.lt_or_ge b w.heap.size with h9|h9
   exact h9;simp[World.cell?,Array.getElem?_eq_none h9] at h7
  have h9:=List.all_eq_true.1 hL _ (List.getElem_mem hjl);rw[Bool.and_eq_true] at h9;have g1:=of_decide_eq_true h9.1;have g2:=of_decide_eq_true h9.2;have e1:(((L.map λn=>UInt8.ofNat n.toNat)[j]).toNat:Int)=L[j]:=by rw[List.getElem_map,UInt8.toNat_ofNat'];omega
  rw[e1,dq,bx (hbl.block b hlt)];exact h7
 have:=run_convert_bytes_back (P:=P) w' S T e ⟨b,off,none⟩ cap (L.map λn=>UInt8.ofNat n.toNat) hS he8 hT hc;rw[List.length_map] at this h2;simp[execOp,h2,this];rfl
end
end Go.Sk
namespace Go.Sk
open Go.ChangeShapes Go.WideShapes Go.ChangeAt Go.RowKit
end Go.Sk
namespace Go.Sk
open Go.ChangeShapes Go.WideShapes Go.ChangeAt Go.RowKit
end Go.Sk
namespace Go.Sk
open Go.ChangeShapes Go.WideShapes Go.ChangeAt Go.RowKit
section
variable{H:Type}{enc:TypeId×Value->H}{P:Program}{W:World}{spare:Nat->Bool}{held:Bool}
end
end Go.Sk
namespace Go.Sk
open Go.RowKit (Below)
open Go.ChangeShapes Go.WideShapes Go.ChangeAt Go.RowKit
theorem qS{φ w}{α:Type}(f:α->Value):∀l:List α,RFs φ w (l.map λx=>D.v (f x)) (l.map f)
 |[]=>by simp[RFs]
 |x::l=>by
  simp only[List.map_cons,RFs];exact⟨f x,l.map f,rfl,by simp[RD],qS f l⟩
theorem rn{P:Program}{w:World}{name:String}{g n f:Nat}{t e:TypeId}{k:IntKind}{cs:Array Value}{sp:Nat->Bool}{tab:List Int}{p:List MemPlace}(hu:P.underlying t=some (.array n e))(he:P.underlying e=some (.int k))(hce:P.cellsOf e=1)(hct:P.cellsOf t=n)
  (hg:P.globalNamed name=some g)(hv:w.var? P name=some cs)(hd:DataW.trod (λ_=>()) P w 0 sp false f t cs.toList=some (.agg (tab.map λn=> .lit (.int k n)),p)):RPs (bz w) w (tab.map (D.i k)) g 0:=by
 obtain⟨xs,m,rfl,hx,hlen,hn,hel⟩:=DataW.trod_array hu hd;simp only[Prod.mk.injEq,DataW.agg.injEq] at hx;have htl:tab.length=n:=by have:=congrArg List.length hx.1;simp only[List.length_map] at this;omega
 rw[hct] at hlen;have hcell:∀i v,(tab.map (Value.int k))[i]? =some v->cs[i]? =some v:=λi v hi=>by
  rw[List.getElem?_map,Option.map_eq_some_iff] at hi;obtain⟨z,hz,rfl⟩:=hi;have hin:i<n:=by rw[<-htl];exact(giS.1 hz).1
  have h1:=hel i hin;have hxi:i<xs.length:=oM;rw[geG hxi] at h1;obtain⟨n',e1,e2,_⟩:=DataW.trod_int he h1;rw[hce,Nat.mul_one] at e1;have h2:(tab.map λn=>(DataW.lit (.int k n):DataW Unit))[i]? =some (xs[i]).1:=by rw[hx.1,List.getElem?_map,geG hxi];rfl
  rw[List.getElem?_map,hz,e2] at h2;simp only[Option.map_some,aK,DataW.lit.injEq,Lit.int.injEq,true_and] at h2;subst h2;have h3:cs.toList[i]? =some (.int k z):=by
   have h4:(cs.toList.drop i).take 1=[Value.int k z]:=e1;have h5:((cs.toList.drop i).take 1)[0]? =some (Value.int k z):=by rw[h4];rfl
   rw[List.getElem?_take,if_pos oM,List.getElem?_drop] at h5;simpa using h5
  simpa using h3
 have hall:bz w g=cs.size:=by have h:=hv;simp only[World.var?,hg,bnS] at h;unfold bz;split at h;rename_i c _ _ hh;simp only[aK] at h;subst h;rw[hh];cases h
 have hm:tab.map (D.i k)=tab.map λx=>D.v (Value.int k x):=rfl;rw[hm];refine dH (vs:=tab.map (Value.int k)) (qS _ _) (λj v hj=>?_);have h1:=hcell j v hj;rw[Nat.zero_add,World.var?_cell hg hv,hall];exact⟨(Array.getElem?_eq_some_iff.1 h1).1,h1⟩
theorem oZ{H:Type}{enc:TypeId×Value->H}{C:Checked}{os:Os}{f:FuncId}{fn:Func}{s:ChangeSpec}{conds:List PathCond}{tb:TypeId}(n:Nat)(X:World->Prop)(hX:∀w w':World,w.heap=w'.heap->X w->X w')(own:ownKnob C.prog.godebug=none)(started:os.Started)(noInit:C.prog.inits.idxOf? f=none)(hfn:C.prog.funcs[f]? =some fn)
  (witness:∃(w:World)(tape:Tape)(i:Input),w.os=os/\(w.forCall tape i).Shaped C.prog/\i.vars=[]/\Input.okWide C.prog (w.forCall tape i) .any w.heap.size f i/\
   ((s.pre enc C.prog fn conds false (w.forCall tape i).memory i.args/\X (w.forCall tape i).memory)/\sizedMet enc C.prog fn (OpenSpec.ofChange s) false (w.forCall tape i).memory i.args)/\({}:Assume).holds C.prog (lone (Frame.enter C.prog f i.args .normal) [] (w.forCall tape i)))
  (hvars:s.vars=[])(hn:fn.params.size=n)(hres:fn.resultTypes= #[tb])(hb:C.prog.underlying tb=some .bool)
  (hspec:∀ds:List (DataW H),ds.length=n->s.fn H ds={ results:=[.lit (.bool true)],args:=ds })(hl:laidOutB C.prog=true)
  (htypes:(fn.params.toList.all λt=>C.prog.readableRec t&&decide (t<C.prog.types.size))=true)
  (hwalk:∀(W:World)(base:Nat)(args:Array Value)(ds:List (DataW H))(p:List MemPlace),X W->(∀(j:Nat) t v,fn.params[j]? =some t->args[j]? =some v->Value.okWide C.prog W .any base t v)->
   DataW.TrodAll enc C.prog W 0 (λ_=>true) true fn.params.toList args.toList ds p->(DataW.weightsEach C.prog fn.params.toList ds).all (·<=reachBytes)=true->
   Calls C.prog f args W λe W'=>e= .returned (.bool true)/\Below W.heap.size W W'):
  ReturnsInHanded {} C os f .any (λw args=>(s.pre enc C.prog fn conds false w args/\X w)/\sizedMet enc C.prog fn (OpenSpec.ofChange s) false w args) (s.post enc C.prog fn false true false false):=by
 refine returnsInHanded_of_change_and (X:=λw _=>X w) (λw w' _ hh h=>hX w w' hh h) own started noInit hfn witness ?_;intro W base args ds gs before hval hW _ hsz hXW _;have hW':=hW;obtain⟨p,q,hA,hV,rfl,_,_⟩:=hW;rw[hvars] at hV;obtain⟨rfl,rfl⟩:=trodVars_none hV;have hvt:s.plain.varTypes C.prog=[]:=by simp[DataSpec.varTypes,ChangeSpec.plain,hvars]
 rw[hvt] at hsz;simp only[List.append_nil] at hsz hW';have hlt:∀y∈p,y.block<W.heap.size:=λy hy=>by simpa using hW'.lt y (by simp[hy])
 have hdl:ds.length=n:=by rw[(lz hA).1];simpa using hn
 refine(hwalk W base args ds p hXW hval hA hsz).mono λe W' ⟨he,hbel⟩=>?_;subst he;refine⟨_,rfl,ds,[],p,[],p,[],?_,?_,?_,?_,hbel.frame _,λh=>by cases h⟩;simpa using hW';simp only[List.append_nil,hspec ds hdl,hres];exact trodAll_mk1 (shut_bool hb _);simp only[List.append_nil,hspec ds hdl];exact jm hl hbel htypes hA hlt;simp only[List.append_nil,hspec ds hdl,hvars];rfl
end Go.Sk
namespace Go.Sk
open Go.ChangeShapes Go.WideShapes Go.ChangeAt Go.RowKit
theorem xQ{α:Type}(cs:Array Value)(f g:α->Value):∀(tab:List α)(i0:Nat),(∀k p,tab[k]? =some p->cs[2*(i0+k)]? =some (f p)/\cs[2*(i0+k)+1]? =some (g p))->∀j v,(tab.flatMap λp=> [f p,g p])[j]? =some v->cs[2*i0+j]? =some v
 |[],i0,h,j,v,hv=>by simp at hv
 |p::r,i0,h,0,v,hv=>by
  have:=(h 0 p rfl).1;rw[List.flatMap_cons] at hv;have e:f p=v:=inS hv;rw[<-e];exact this
 |p::r,i0,h,1,v,hv=>by
  have:=(h 0 p rfl).2;rw[List.flatMap_cons] at hv;have e:g p=v:=inS hv;rw[<-e];exact this
 |p::r,i0,h,j+2,v,hv=>by
  rw[List.flatMap_cons] at hv;have:=xQ cs f g r (i0+1) (λk q hq=>by
   have:=h (k+1) q (by simpa using hq);rw[show i0+1+k=i0+(k+1) by omega];exact this) j v hv
  rw[show 2*i0+(j+2)=2*(i0+1)+j by omega];exact this
theorem th{φ w}{α:Type}(f g:α->ByteArray):∀l:List α,RFs φ w (l.flatMap λx=> [D.s (f x),D.s (g x)]) (l.flatMap λx=> [Value.string (f x),Value.string (g x)])
 |[]=>by simp[RFs]
 |x::l=>by
  simp only[List.flatMap_cons,List.cons_append,List.nil_append,RFs];exact⟨_,_,rfl,by simp[RD],_,_,rfl,by simp[RD],th f g l⟩
theorem nt{P:Program}{w:World}{name:String}{g n f:Nat}{t e ts:TypeId}{f0 f1:Field}{cs:Array Value}{sp:Nat->Bool}{tab:List (ByteArray×ByteArray)}{p:List MemPlace}(hu:P.underlying t=some (.array n e))(he:P.underlying e=some (.struct #[f0,f1]))(h0:f0.type=ts)(h1:f1.type=ts)(o0:f0.offset=0)(o1:f1.offset=1)(hs:P.underlying ts=some .string)(hcs:P.cellsOf ts=1)(hce:P.cellsOf e=2)(hct:P.cellsOf t=2*n)
  (hg:P.globalNamed name=some g)(hv:w.var? P name=some cs)(hd:DataW.trod (λ_=>()) P w 0 sp false f t cs.toList=some (.agg (tab.map λp=> .agg [.lit (.string p.1.data.toList), .lit (.string p.2.data.toList)]),p)):RPs (bz w) w (tab.flatMap λp=> [D.s p.1,D.s p.2]) g 0:=by
 obtain⟨xs,m,rfl,hx,hlen,hn,hel⟩:=DataW.trod_array hu hd;simp only[Prod.mk.injEq,DataW.agg.injEq] at hx;have htl:tab.length=n:=by have:=congrArg List.length hx.1;simp only[List.length_map] at this;omega
 rw[hct] at hlen;have one:∀(i:Nat)(s:ByteArray)(k:Nat),((cs.toList.drop (i*2)).take 2|>.drop k).take 1=[Value.string s]->k<2->cs[2*i+k]? =some (.string s):=λi s k h hk=>by
  have h5:(((cs.toList.drop (i*2)).take 2|>.drop k).take 1)[0]? =some (Value.string s):=by rw[h];rfl
  rw[List.getElem?_take,if_pos oM,List.getElem?_drop,List.getElem?_take,if_pos oM,List.getElem?_drop] at h5;rw[show 2*i+k=i*2+(k+0) by omega,<-Array.getElem?_toList];exact h5
 have hcell:=xQ cs (λp:ByteArray×ByteArray=>Value.string p.1) (λp=>Value.string p.2) tab 0 (λi q hq=>by
  have hin:i<n:=by rw[<-htl];exact(giS.1 hq).1
  have h2:=hel i hin;have hxi:i<xs.length:=oM;rw[geG hxi] at h2;obtain⟨y0,y1,n',e1,_,e3,e4⟩:=trod_struct2 he h2;rw[hce,o0,h0,hcs] at e3;rw[hce,o1,h1,hcs] at e4;obtain⟨s0,a1,a2,_⟩:=DataW.trod_string hs e3;obtain⟨s1,b1,b2,_⟩:=DataW.trod_string hs e4;have h3:(tab.map λp=>(DataW.agg [.lit (.string p.1.data.toList), .lit (.string p.2.data.toList)]:DataW Unit))[i]? =some (xs[i]).1:=by rw[hx.1,List.getElem?_map,geG hxi];rfl
  rw[List.getElem?_map,hq,e1,a2,b2] at h3;simp only[Option.map_some,aK,DataW.agg.injEq,List.cons.injEq,DataW.lit.injEq,Lit.string.injEq,and_true,Array.toList_inj] at h3;have c0:q.1=s0:=ByteArray.ext h3.1;have c1:q.2=s1:=ByteArray.ext h3.2;rw[c0,c1,Nat.zero_add];exact⟨one i s0 0 a1 oM,one i s1 1 b1 oM⟩)
 have hall:bz w g=cs.size:=by have h:=hv;simp only[World.var?,hg,bnS] at h;unfold bz;split at h;rename_i c _ _ hh;simp only[aK] at h;subst h;rw[hh];cases h
 refine dH (vs:=tab.flatMap λp=> [Value.string p.1,Value.string p.2]) (th _ _ _) (λj v hj=>?_);have h1:=hcell j v hj;rw[Nat.zero_add,World.var?_cell hg hv,hall];rw[Nat.mul_zero,Nat.zero_add] at h1;exact⟨(Array.getElem?_eq_some_iff.1 h1).1,h1⟩
end Go.Sk
namespace Go.Sk
open Go.RowKit (Below)
theorem Y1{a0 b:Prop}(k:b)(ha0:a0:=by exact O1 rfl (λ_=>rfl) rfl rfl):a0/\b:=⟨ha0,k⟩
theorem Y2{a0 a1 b:Prop}(k:b)(ha0:a0:=by exact O1 rfl (λ_=>rfl) rfl rfl)(ha1:a1:=by exact O1 rfl (λ_=>rfl) rfl rfl):a0/\a1/\b:=⟨ha0,ha1,k⟩
theorem Y3{a0 a1 a2 b:Prop}(k:b)(ha0:a0:=by exact O1 rfl (λ_=>rfl) rfl rfl)(ha1:a1:=by exact O1 rfl (λ_=>rfl) rfl rfl)(ha2:a2:=by exact O1 rfl (λ_=>rfl) rfl rfl):a0/\a1/\a2/\b:=⟨ha0,ha1,ha2,k⟩
theorem Y4{a0 a1 a2 a3 b:Prop}(k:b)(ha0:a0:=by exact O1 rfl (λ_=>rfl) rfl rfl)(ha1:a1:=by exact O1 rfl (λ_=>rfl) rfl rfl)(ha2:a2:=by exact O1 rfl (λ_=>rfl) rfl rfl)(ha3:a3:=by exact O1 rfl (λ_=>rfl) rfl rfl):a0/\a1/\a2/\a3/\b:=⟨ha0,ha1,ha2,ha3,k⟩
theorem Y5{a0 a1 a2 a3 a4 b:Prop}(k:b)(ha0:a0:=by exact O1 rfl (λ_=>rfl) rfl rfl)(ha1:a1:=by exact O1 rfl (λ_=>rfl) rfl rfl)(ha2:a2:=by exact O1 rfl (λ_=>rfl) rfl rfl)(ha3:a3:=by exact O1 rfl (λ_=>rfl) rfl rfl)(ha4:a4:=by exact O1 rfl (λ_=>rfl) rfl rfl):a0/\a1/\a2/\a3/\a4/\b:=⟨ha0,ha1,ha2,ha3,ha4,k⟩
theorem Y6{a0 a1 a2 a3 a4 a5 b:Prop}(k:b)(ha0:a0:=by exact O1 rfl (λ_=>rfl) rfl rfl)(ha1:a1:=by exact O1 rfl (λ_=>rfl) rfl rfl)(ha2:a2:=by exact O1 rfl (λ_=>rfl) rfl rfl)(ha3:a3:=by exact O1 rfl (λ_=>rfl) rfl rfl)(ha4:a4:=by exact O1 rfl (λ_=>rfl) rfl rfl)(ha5:a5:=by exact O1 rfl (λ_=>rfl) rfl rfl):a0/\a1/\a2/\a3/\a4/\a5/\b:=⟨ha0,ha1,ha2,ha3,ha4,ha5,k⟩
theorem Y7{a0 a1 a2 a3 a4 a5 a6 b:Prop}(k:b)(ha0:a0:=by exact O1 rfl (λ_=>rfl) rfl rfl)(ha1:a1:=by exact O1 rfl (λ_=>rfl) rfl rfl)(ha2:a2:=by exact O1 rfl (λ_=>rfl) rfl rfl)(ha3:a3:=by exact O1 rfl (λ_=>rfl) rfl rfl)(ha4:a4:=by exact O1 rfl (λ_=>rfl) rfl rfl)(ha5:a5:=by exact O1 rfl (λ_=>rfl) rfl rfl)(ha6:a6:=by exact O1 rfl (λ_=>rfl) rfl rfl):a0/\a1/\a2/\a3/\a4/\a5/\a6/\b:=⟨ha0,ha1,ha2,ha3,ha4,ha5,ha6,k⟩
theorem Y8{a0 a1 a2 a3 a4 a5 a6 a7 b:Prop}(k:b)(ha0:a0:=by exact O1 rfl (λ_=>rfl) rfl rfl)(ha1:a1:=by exact O1 rfl (λ_=>rfl) rfl rfl)(ha2:a2:=by exact O1 rfl (λ_=>rfl) rfl rfl)(ha3:a3:=by exact O1 rfl (λ_=>rfl) rfl rfl)(ha4:a4:=by exact O1 rfl (λ_=>rfl) rfl rfl)(ha5:a5:=by exact O1 rfl (λ_=>rfl) rfl rfl)(ha6:a6:=by exact O1 rfl (λ_=>rfl) rfl rfl)(ha7:a7:=by exact O1 rfl (λ_=>rfl) rfl rfl):a0/\a1/\a2/\a3/\a4/\a5/\a6/\a7/\b:=⟨ha0,ha1,ha2,ha3,ha4,ha5,ha6,ha7,k⟩
theorem Y9{a0 a1 a2 a3 a4 a5 a6 a7 a8 b:Prop}(k:b)(ha0:a0:=by exact O1 rfl (λ_=>rfl) rfl rfl)(ha1:a1:=by exact O1 rfl (λ_=>rfl) rfl rfl)(ha2:a2:=by exact O1 rfl (λ_=>rfl) rfl rfl)(ha3:a3:=by exact O1 rfl (λ_=>rfl) rfl rfl)(ha4:a4:=by exact O1 rfl (λ_=>rfl) rfl rfl)(ha5:a5:=by exact O1 rfl (λ_=>rfl) rfl rfl)(ha6:a6:=by exact O1 rfl (λ_=>rfl) rfl rfl)(ha7:a7:=by exact O1 rfl (λ_=>rfl) rfl rfl)(ha8:a8:=by exact O1 rfl (λ_=>rfl) rfl rfl):a0/\a1/\a2/\a3/\a4/\a5/\a6/\a7/\a8/\b:=⟨ha0,ha1,ha2,ha3,ha4,ha5,ha6,ha7,ha8,k⟩
theorem X2a{a0 a1 b:Prop}(k:b)(h0:a0:=by exact O2 rfl (λ_=>rfl) rfl rfl)(h1:a1:=by exact O2 rfl (λ_=>rfl) rfl rfl):(a0/\a1/\True)/\b:=⟨⟨h0,h1,trivial⟩,k⟩
theorem X2b{a00 a01 a10 a11 b:Prop}(k:b)(ha00:a00:=by exact O2 rfl (λ_=>rfl) rfl rfl)(ha01:a01:=by exact O2 rfl (λ_=>rfl) rfl rfl)(ha10:a10:=by exact O2 rfl (λ_=>rfl) rfl rfl)(ha11:a11:=by exact O2 rfl (λ_=>rfl) rfl rfl):(a00/\a01/\True)/\(a10/\a11/\True)/\b:=⟨⟨ha00,ha01,trivial⟩,⟨ha10,ha11,trivial⟩,k⟩
theorem X2c{a00 a01 a10 a11 a20 a21 b:Prop}(k:b)(ha00:a00:=by exact O2 rfl (λ_=>rfl) rfl rfl)(ha01:a01:=by exact O2 rfl (λ_=>rfl) rfl rfl)(ha10:a10:=by exact O2 rfl (λ_=>rfl) rfl rfl)(ha11:a11:=by exact O2 rfl (λ_=>rfl) rfl rfl)(ha20:a20:=by exact O2 rfl (λ_=>rfl) rfl rfl)(ha21:a21:=by exact O2 rfl (λ_=>rfl) rfl rfl):(a00/\a01/\True)/\(a10/\a11/\True)/\(a20/\a21/\True)/\b:=⟨⟨ha00,ha01,trivial⟩,⟨ha10,ha11,trivial⟩,⟨ha20,ha21,trivial⟩,k⟩
theorem X2d{a00 a01 a10 a11 a20 a21 a30 a31 b:Prop}(k:b)(ha00:a00:=by exact O2 rfl (λ_=>rfl) rfl rfl)(ha01:a01:=by exact O2 rfl (λ_=>rfl) rfl rfl)(ha10:a10:=by exact O2 rfl (λ_=>rfl) rfl rfl)(ha11:a11:=by exact O2 rfl (λ_=>rfl) rfl rfl)(ha20:a20:=by exact O2 rfl (λ_=>rfl) rfl rfl)(ha21:a21:=by exact O2 rfl (λ_=>rfl) rfl rfl)(ha30:a30:=by exact O2 rfl (λ_=>rfl) rfl rfl)(ha31:a31:=by exact O2 rfl (λ_=>rfl) rfl rfl):(a00/\a01/\True)/\(a10/\a11/\True)/\(a20/\a21/\True)/\(a30/\a31/\True)/\b:=⟨⟨ha00,ha01,trivial⟩,⟨ha10,ha11,trivial⟩,⟨ha20,ha21,trivial⟩,⟨ha30,ha31,trivial⟩,k⟩
theorem X3a{a0 a1 a2 b:Prop}(k:b)(h0:a0:=by exact O2 rfl (λ_=>rfl) rfl rfl)(h1:a1:=by exact O2 rfl (λ_=>rfl) rfl rfl)(h2:a2:=by exact O2 rfl (λ_=>rfl) rfl rfl):(a0/\a1/\a2/\True)/\b:=⟨⟨h0,h1,h2,trivial⟩,k⟩
theorem rc{P:Program}{e:En}[T:Tys P]{l:List Oper}{rs:List AV}{base:Env}{sts:Nat->List AO}{k d c c':Nat}{o:Oper}{pk bk:List Nat}{a b:Bool}(hb:a=b)(h:∀F:Env,j0 T.t e.n l.toArray (sts c) 1 [o] (kp l rs base pk bk++F)=some ([],(d, .d (.v (.bool a)))::(kp l rs base pk bk++F)):=by exact λ_=>rfl)(hd:o.dst=some d:=by exact rfl)(hr:rs[k]? =some (.d (.v (.bool b))):=by exact rfl)(hu:sts c=sts c':=by exact rfl):Ob P e l rs base sts k o pk bk c c':=
 λF=>Rl 1 (h F) (WL.cast d (by simp[bJ]) (yZ (Cb hb)) (wj hd hr hu))
theorem zo{a b:Prop}(h:a)(k:b):(a/\True)/\b:=⟨⟨h,trivial⟩,k⟩
abbrev p00:List Nat×List Nat×List Nat:=([],[],[0])
abbrev p01(y0:Nat):List Nat×List Nat×List Nat:=([],[y0],[0])
abbrev q01(y0 z:Nat):List Nat×List Nat×List Nat:=([],[y0],[z])
abbrev p10(x0:Nat):List Nat×List Nat×List Nat:=([x0],[],[0])
abbrev q10(x0 z:Nat):List Nat×List Nat×List Nat:=([x0],[],[z])
abbrev p11(x0 y0:Nat):List Nat×List Nat×List Nat:=([x0],[y0],[0])
abbrev q11(x0 y0 z:Nat):List Nat×List Nat×List Nat:=([x0],[y0],[z])
abbrev p20(x0 x1:Nat):List Nat×List Nat×List Nat:=([x0,x1],[],[0])
abbrev q20(x0 x1 z:Nat):List Nat×List Nat×List Nat:=([x0,x1],[],[z])
abbrev p30(x0 x1 x2:Nat):List Nat×List Nat×List Nat:=([x0,x1,x2],[],[0])
abbrev q30(x0 x1 x2 z:Nat):List Nat×List Nat×List Nat:=([x0,x1,x2],[],[z])
abbrev u00:List Nat×List Nat×List Nat:=([],[],[0,1])
abbrev u01(y0:Nat):List Nat×List Nat×List Nat:=([],[y0],[0,1])
abbrev v01(y0:Nat):List Nat×List Nat×List Nat:=([],[y0],[1,2])
abbrev u10(x0:Nat):List Nat×List Nat×List Nat:=([x0],[],[0,1])
abbrev v10(x0:Nat):List Nat×List Nat×List Nat:=([x0],[],[1,2])
abbrev u20(x0 x1:Nat):List Nat×List Nat×List Nat:=([x0,x1],[],[0,1])
theorem Z6{α β γ δ ε ζ:Type}{a:α}{b:β}{c:γ}{d:δ}{e:ε}{f:ζ}:a=a/\b=b/\c=c/\d=d/\e=e/\f=f:=⟨rfl,rfl,rfl,rfl,rfl,rfl⟩
theorem Z2{α β:Type}{a:α}{b:β}:a=a/\b=b:=⟨rfl,rfl⟩
theorem Z4{α β γ δ:Type}{a:α}{b:β}{c:γ}{d:δ}:a=a/\b=b/\c=c/\d=d:=⟨rfl,rfl,rfl,rfl⟩
theorem Z3{α β γ:Type}{a:α}{b:β}{c:γ}:a=a/\b=b/\c=c:=⟨rfl,rfl,rfl⟩
theorem wF{P:Program}{e:En}{ops:Array Oper}{rest:List Oper}{env:Env}{st:List AO}{R:Env->List AO->Prop}{o:Oper}{d:Nat}{f:FuncId}{c:Call}{x:Operand}{first caps asz:List AV}{ds:List D}{y:D}(a:o.op= .call c/\c.callee= .value x/\opv env x=some (.fn (.func f) first caps)/\dw env c.args.toList=some asz)(hc:Pu P f ds y)(hl:Les (first++asz++caps) (ds.map .d))
  (b:o.guard=none/\o.dst=some d/\Nat.ble (d+1) e.n=true)(h:WL P e ops rest ((d, .d y)::env) st R):WL P e ops (o::rest) env st R:=WL.fn a.1 a.2.1 a.2.2.1 a.2.2.2 hc hl (Wt.none b.1) b.2.1 b.2.2 h
theorem sS{P:Program}{e:En}{ops:Array Oper}{rest:List Oper}{env:Env}{st:List AO}{R:Env->List AO->Prop}{T:TypeId}{x y:Operand}{id off n:Nat}{T':TypeId}{cs:List AV}{r:AV}{rs:List AV}{ty:TypeId}{pos:String}{after:Array Edge}(a:opv env x=some (.pt id off)/\st[id]? =some (.row T' cs)/\opv env y=some r/\r.okc=true/\r.cells=rs/\rs.all AV.ok1=true)
  (hn:bI P T=some n)(b:rs.length=n/\Nat.ble (off+n) cs.length=true)(h:WL P e ops rest env (st.set id (.row T' (cs.take off++rs++cs.drop (off+n)))) R):WL P e ops (⟨none, .store T x y,ty,pos,after,none⟩::rest) env st R:=
 WL.s0 (xl a.1 a.2.1 a.2.2.1 a.2.2.2.1 a.2.2.2.2.1 a.2.2.2.2.2 hn b.1 b.2) (Wt.none rfl) rfl h
section
variable{P:Program}{e:En}{ops:Array Oper}{l:List Oper}{st:List AO}{env env0 env1:Env}{R:Env->List AO->Prop}
theorem Nn{t d:Nat}{b z:Bool}(n:Nat)(h1:env1=env1.take n++((t, .d (.v (.bool b)))::env0):=by exact rfl)(h2:iH (env1.take n) env0=true:=by exact rfl)(h3:Env.get (env1.take n) d=some (.d (.v (.bool z))):=by exact rfl):WL P e ops [] env1 st (λenv' st'=>st'=st/\GrpJ env0 t b d z env'):=WL.nil ⟨rfl,env1.take n,h1,h2,h3⟩
theorem Rn [T:Tys P]{t d:Nat}{b z:Bool}(k n:Nat)(h:j0 T.t e.n ops st k l env=some ([],env1):=by exact rfl)(h1:env1=env1.take n++((t, .d (.v (.bool b)))::env0):=by exact rfl)(h2:iH (env1.take n) env0=true:=by exact rfl)(h3:Env.get (env1.take n) d=some (.d (.v (.bool z))):=by exact rfl):WL P e ops l env st (λenv' st'=>st'=st/\GrpJ env0 t b d z env'):=Rl k h (Nn n h1 h2 h3)
theorem On [T:Tys P]{t d:Nat}{b z z':Bool}(k n:Nat)(hz:some z'=some z)(h:j0 T.t e.n ops st k l env=some ([],env1):=by exact rfl)(h1:env1=env1.take n++((t, .d (.v (.bool b)))::env0):=by exact rfl)(h2:iH (env1.take n) env0=true:=by exact rfl)(h3:Env.get (env1.take n) d=some (.d (.v (.bool z'))):=by exact rfl):WL P e ops l env st (λenv' st'=>st'=st/\GrpJ env0 t b d z env'):=Rn k n h h1 h2 (h3.trans (by rw[inS hz]))
theorem AG [T:Tys P]{env2:Env}(k t d a n:Nat){x y:Bool}(hr:WL P e ops (l.drop k) ((d, .d (.v (.bool (x&&y))))::env) st R)(hx:env.get t=some (.d (.v (.bool x))):=by exact rfl)(h:j0 T.t e.n ops st a (l.take k) ((t, .d (.v (.bool true)))::env)=some ([],env1):=by exact rfl)(h1:env1=env1.take n++((t, .d (.v (.bool true)))::env):=by exact rfl)(h2:iH (env1.take n) env=true:=by exact rfl)(h3:Env.get (env1.take n) d=some (.d (.v (.bool y))):=by exact rfl)
  (g:j0 T.t e.n ops st a (l.take k) ((t, .d (.v (.bool false)))::env)=some ([],env2):=by exact rfl)(g1:env2=env2.take n++((t, .d (.v (.bool false)))::env):=by exact rfl)(g2:iH (env2.take n) env=true:=by exact rfl)(g3:Env.get (env2.take n) d=some (.d (.v (.bool false))):=by exact rfl):WL P e ops l env st R:=WL.and k hx (λ_=>Rn a n h h1 h2 h3) (Rn a n g g1 g2 g3) hr
theorem OG [T:Tys P]{env2:Env}(k t d a n:Nat){x y:Bool}(hr:WL P e ops (l.drop k) ((d, .d (.v (.bool (x||y))))::env) st R)(hx:env.get t=some (.d (.v (.bool x))):=by exact rfl)(h:j0 T.t e.n ops st a (l.take k) ((t, .d (.v (.bool false)))::env)=some ([],env1):=by exact rfl)(h1:env1=env1.take n++((t, .d (.v (.bool false)))::env):=by exact rfl)(h2:iH (env1.take n) env=true:=by exact rfl)(h3:Env.get (env1.take n) d=some (.d (.v (.bool y))):=by exact rfl)
  (g:j0 T.t e.n ops st a (l.take k) ((t, .d (.v (.bool true)))::env)=some ([],env2):=by exact rfl)(g1:env2=env2.take n++((t, .d (.v (.bool true)))::env):=by exact rfl)(g2:iH (env2.take n) env=true:=by exact rfl)(g3:Env.get (env2.take n) d=some (.d (.v (.bool true))):=by exact rfl):WL P e ops l env st R:=WL.or k hx (λ_=>Rn a n h h1 h2 h3) (Rn a n g g1 g2 g3) hr
theorem Gg(k t d:Nat)(z:Bool){x:Bool}{β:Type}{a b w:β}(hb:(bif x then a else b)=w)(h1:a=w->WL P e ops (l.take k) ((t, .d (.v (.bool true)))::env) st λenv' st'=>st'=st/\GrpJ env t true d z env')(h0:b=w->WL P e ops (l.take k) ((t, .d (.v (.bool false)))::env) st λenv' st'=>st'=st/\GrpJ env t false d z env')
  (hr:WL P e ops (l.drop k) ((d, .d (.v (.bool z)))::env) st R)(hx:env.get t=some (.d (.v (.bool x))):=by exact rfl):WL P e ops l env st R:=WL.grp k hx (λhh=>h1 (dL hb hh)) (λhh=>h0 (dM hb hh)) hr
end
theorem fI{P:Program}{f:FuncId}{fn:Func}{c:Code}{asz:List D}{x:D}{n:Nat}(hf:P.funcs[f]? =some fn)(h:∀φ w,WC P ⟨[],φ,w,n,none,none⟩ c (.fin fn (λr' st'=>r'= .d x/\st'=[])) (ig 0 (asz.map .d)) [])(h1:(fn.name== "runtime.NumGoroutine")=false:=by kernel_rfl)
  (h2:fn.body=some c:=by exact rfl)(h3:fn.ntmps=n:=by exact rfl)(h4:Nat.ble (asz.map AV.d).length n=true:=by exact rfl):Pu P f asz x:=vD hf h1 h2 h3 h4 h
theorem cI{P:Program}{f:FuncId}{fn:Func}{c:Code}{asz:List AV}{st:List AO}{Q:AV->List AO->Prop}{n:Nat}(hf:P.funcs[f]? =some fn)(h:∀m φ w,m.length=st.length->WC P ⟨m,φ,w,n,none,none⟩ c (.fin fn Q) (ig 0 asz) st)(h1:(fn.name== "runtime.NumGoroutine")=false:=by kernel_rfl)
  (h2:fn.body=some c:=by exact rfl)(h3:fn.ntmps=n:=by exact rfl)(h4:Nat.ble asz.length n=true:=by exact rfl):Ctr P f asz st Q:=od hf h1 h2 h3 h4 h
end Go.Sk
