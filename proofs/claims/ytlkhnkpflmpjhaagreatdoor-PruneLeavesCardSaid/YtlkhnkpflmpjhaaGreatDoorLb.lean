/- Part of the proof. -/
import Derived.Laws.BitsLemmas
import Derived.KernelRfl
import Derived.Test.YtlkhnkpflmpjhaaGreatDoorO
import Derived.Test.YtlkhnkpflmpjhaaGreatDoorLa
set_option linter.all false
set_option maxRecDepth 10000
namespace Go.Proofs.YtlkhnkpflmpjhaaGreatDoor
open Go Go.Sk
theorem mk264{n:Int}(h0:0<=n)(h:n<=1000000):nC 264 n=true:=by
 unfold nC;have:maxLen=9223372036854775807:=by decide
 rw[this,dcT h0,dcT (show n<=((9223372036854775807:Nat):Int) by omega),dcT oM];rfl
def pt(n:Int):aa:=⟨n,n⟩
def Rob(o:Obj):aa:=bif o.ptr then o.set_.foldl (λv n=>J v (pt (n+1))) (pt 0) else⟨o.lo,o.hi⟩
structure OOk(o:Obj):Prop where
 sz:1<=o.size/\o.size<=16384
 lh:o.lo<=o.hi
 i6: -9223372036854775808<=o.lo/\o.hi<=9223372036854775807
 len:o.set_.length<=4096
 set_:∀n∈o.set_,0<=n/\n<=4096
theorem nM{os:List Obj}:∀(L:List Int)(last:Int),gt os last L=true->-1<=last->∀n∈L,0<=n/\n<os.length
 |[],_,_,_,n,h=>by cases h
 |x::r,last,h,h1,n,hn=>by
  simp only[gt,Bool.and_eq_true,decide_eq_true_eq] at h;have hx:0<=x/\x<os.length:=by
   have:=h.1.2;unfold aim at this;cases hi:idx os x with
   |none=>rw[hi] at this;cases this
   |some y=>exact db hi
  rcases List.mem_cons.1 hn with rfl|hn
  exact hx;exact nM r x h.2 oM n hn
theorem VT.oo{t:ah}(h:VT t){o:Obj}(ho:o∈t.objs)(h6: -9223372036854775808<=o.lo/\o.hi<=9223372036854775807):OOk o:=by
 have h1:=h.o ho;have h2:=h.objs;refine⟨oM,oM,h6,oM,λn hn=>?_⟩;have h3:=h.obj o ho;unfold eI at h3;rw[Bool.and_eq_true] at h3;cases hp:o.ptr with
 |false=>have:=h3.2;rw[hp] at this;simp only[Bool.not_false,cdT,decide_eq_true_eq] at this;have:o.set_=[]:=List.eq_nil_of_length_eq_zero oM;rw[this] at hn;cases hn
 |true=>have:=h3.2;rw[hp] at this;simp only[Bool.not_true,cdF,Bool.and_eq_true] at this;have:=nM _ _ this.1 oM n hn;omega
theorem uZ{n:Int}(h:0<=n/\n<=4097):Ne (pt n):=by unfold Ne I6 pt;dsimp only;omega
theorem o9:∀(L:List Int)(a:aa),Ne a->(∀n∈L,0<=n/\n<=4096)->Ne (L.foldl (λv n=>J v (pt (n+1))) a)/\Isub a (L.foldl (λv n=>J v (pt (n+1))) a)/\∀n∈L,Isub (pt (n+1)) (L.foldl (λv n=>J v (pt (n+1))) a)
 |[],a,h,_=>⟨h,Isub.refl _,λ_ h=>by cases h⟩
 |x::L,a,h,hn=>by
  have hx:=hn x List.mem_cons_self;obtain⟨j1,j2,j3,j4,j5,_,_⟩:=gZ a (pt (x+1)) h (uZ oM);obtain⟨k1,k2,k3⟩:=o9 L _ j1 λn h=>hn n (List.mem_cons_of_mem _ h);refine⟨k1,Isub.trans ⟨j2,j4⟩ k2,λn hm=>?_⟩;rcases List.mem_cons.1 hm with rfl|hm
  exact Isub.trans ⟨j3,j5⟩ k2;exact k3 n hm
theorem xV{o:Obj}(h:OOk o):Ne (Rob o):=by
 unfold Rob;cases o.ptr with
 |false=>exact⟨h.lh,h.i6⟩
 |true=>exact(o9 _ _ (uZ oM) h.set_).1
theorem xy{o:Obj}(h:OOk o){v:Int}(hv:fits o v=true):Ne (pt v)/\Isub (pt v) (Rob o):=by
 have key:Isub (pt v) (Rob o):=by
  unfold fits at hv;unfold Rob;cases hp:o.ptr with
  |false=>rw[hp] at hv;simp only[cdF,Bool.and_eq_true,decide_eq_true_eq] at hv;exact⟨hv.1,hv.2⟩
  |true=>
   rw[hp] at hv;obtain⟨k1,k2,k3⟩:=o9 o.set_ (pt 0) (uZ oM) h.set_;simp only[cdT,Bool.or_eq_true,decide_eq_true_eq,List.any_eq_true] at hv⊢;rcases hv with hv|⟨n,hn,hv⟩
   rw[hv];exact k2;have:=h.set_ n hn;unfold f110 at hv;rw[w64 oM oM,decide_eq_true_eq] at hv;rw[<-hv];exact k3 n hn
 have hr:=xV h;refine⟨?_,key⟩;unfold Ne I6 Isub pt at*
 dsimp only at*
 omega
theorem f69_eq{o:Obj}(h:OOk o):f69 o=some (Rob o):=by
 have hl:=h.len;unfold f69 Rob;cases o.ptr with
 |false=>rfl
 |true=>
  rw[Bool.not_true,cdF,cdT,aw];have key:∀(n i:Nat)(v:aa),i<=o.set_.length->o.set_.length<n+i->f69_l1 o (λc d=>some (aa.mk c d)) n (i:Int) v.lo v.hi=some ((o.set_.drop i).foldl (λv n=>J v (pt (n+1))) v):=by
   intro n;induction n with
   |zero=>intro i v _ h;omega
   |succ n ih=>intro i v hi hn;rw[f69_l1];by_cases hh:i<o.set_.length;have:=h.set_ _ (List.getElem_mem hh);rw[ltT hh,cdT,aE hh,bnS,w64 oM oM,f101_e1,bnS,wN oM,ih (i+1) _ oM oM,aV hh];rfl;rw[dcF oM,cdF,List.drop_eq_nil_of_le oM];rfl
  have:=key (Int.toNat ((o.set_.length:Int) - 0)+1) 0 (pt 0) oM sM;rw[List.drop_zero] at this;exact this
def Fit(os:List Obj)(S:List (List Int)):Prop:=∀(i:Nat)(r:List Int)(o:Obj)(v:Int),S[i]? =some r->os[i]? =some o->v∈r->fits o v=true
theorem xf{t:ah}(h:VT t):Fit t.objs (t.objs.map d3):=λi r o v hr ho hv=>by
 rw[List.getElem?_map,ho,Option.map_some,aK] at hr;rw[<-hr] at hv;unfold d3 at hv;have hv2:=(List.mem_replicate.1 hv).2;rw[hv2];unfold wY;cases hf:fits o 0 with
 |true=>exact hf
 |false=>
  rw[cdF];have h1:=h.o (List.mem_of_getElem? ho);unfold fits at hf⊢;cases hp:o.ptr with
  |true=>rw[hp] at hf;simp at hf
  |false=>simp only[cdF,Bool.and_eq_true,decide_eq_true_eq];omega
theorem xe{os:List Obj}{S:List (List Int)}(h:Fit os S){x:dO}(hx:dA os x=true):Fit os (qc S x):=λi r o v hr ho hv=>by
 unfold qc at hr;rw[List.getElem?_set] at hr;by_cases e:x.o.toNat=i;rw[if_pos e] at hr;split at hr;rw[aK] at hr;rw[<-hr] at hv;rcases List.mem_or_eq_of_mem_set hv with hv|hv
 cases hs:S[x.o.toNat]? with
 |none=>rw[hs] at hv;cases hv
 |some r'=>rw[hs] at hv;exact h i r' o v (by rw[<-e];exact hs) ho hv
 unfold dA at hx;rw[Bool.and_eq_true] at hx;obtain⟨y,hy,_⟩:=eS hx.1;have h2:=hx.2;rw[hy] at h2;have:y=o:=by have:=bg hy;rw[e,ho,aK] at this;exact this.symm
 rw[hv,<-this];exact h2;cases hr;rw[if_neg e] at hr;exact h i r o v hr ho hv
theorem qw{os:List Obj}:∀(L:List dO)(S:List (List Int)),Fit os S->(∀x∈L,dA os x=true)->Fit os (L.foldl qc S)
 |[],_,h,_=>h
 |x::L,S,h,hL=>qw L _ (xe h (hL x List.mem_cons_self)) λy hy=>hL y (List.mem_cons_of_mem _ hy)
theorem ud{t:ah}(h:VT t):Fit t.objs (store t):=qw _ _ (xf h) (iD _ _ h.inits)
theorem nR(g:aa):∀r:List aa,(r.map (pv g)).sum<=4*r.length
 |[]=>sM
 |x::r=>by have:=nR g r;have:=xE g x;simp only[List.map_cons,List.sum_cons,List.length_cons];omega
theorem xG:∀(S:List (List aa))(G:List aa),(∀r∈S,r.length<=16384)->pS S G<=65536*S.length
 |[],_,_=>by simp[pS]
 |_::_,[],_=>by simp[pS]
 |r::S,g::G,h=>by
  have:=xG S G λr hr=>h r (List.mem_cons_of_mem _ hr);have:=nR g r;grind [pS]
theorem Sh.rowl{os:List Obj}{rg:List aa}{S:List (List aa)}(h:Sh os rg S):∀r∈S,r.length<=16384:=λr hr=>by
 obtain⟨i,hi⟩:=List.getElem?_of_mem hr;have hil:=(giS.1 hi).1;have:=h.sl_;obtain⟨o,ho⟩:∃o,os[i]? =some o:=⟨_,geG oM⟩;have:=h.row i r o hi ho;have:=h.os1 o (List.mem_of_getElem? ho);omega
theorem yt{t:ah}(hn:t.insns.length<=65536){rg:List aa}(F:List am)(S:List (List aa))(hF:FOk t.insns.length F)(hS:Sh t.objs rg S):pS S rg+pFs F<=300000000:=by have h1:=xG S rg hS.rowl;have h2:=uK F;have h3:=hS.sl_;have h4:=hS.ol;have h5:=hF.l;unfold pFs;omega
structure Vd(t:ah):Prop where
 vt:VT t
 cx:Cx t
 oo:∀o∈t.objs,OOk o
 tk:∀x∈t.tasks,eo t x=true
theorem Vd.of{t:ah}(hs:Sz t)(h:MayB t=true)(h6:∀o∈t.objs, -9223372036854775808<=o.lo/\o.hi<=9223372036854775807)(hn:∀x∈t.insns,I64 x.n):Vd t:=by have hv:=MayB.vt hs h;have hb:=Bdt.of hs h;refine⟨hv,⟨hb,hv.excs.2,λx hx=>?_⟩,λo ho=>hv.oo ho (h6 o ho),?_⟩;have hf:=hv.fits x hx;grind [IOk.of,fR,yz];grind [MayB,dX]
theorem f37_l2_eq(x:List Int)(k:List aa->Option (List am×List (List aa)×Int))(hl:x.length<=16384):∀(n i:Nat)(L:List aa),L=(x.take i).map pt->i<=x.length->x.length<n+i->f37_l2 x k n (i:Int) L=k (x.map pt)
 |0,i,_,_,_,h=>oM
 |n+1,i,L,hL,hi,h=>by
  rw[f37_l2];by_cases hh:i<x.length;have hlen:L.length=i:=by rw[hL,List.length_map,List.length_take];omega
  rw[ltT hh,cdT,aE hh,bnS,bR _ (mg oM (by simp;omega)),wN oM];refine f37_l2_eq x k hl n (i+1) _ ?_ oM oM;rw[hL,List.take_succ_eq_append_getElem hh,List.map_append];rfl;grind
theorem f37_l2_0(x:List Int)(k:List aa->Option (List am×List (List aa)×Int))(hl:x.length<=16384):f37_l2 x k (Int.toNat ((x.length:Int) - 0)+1) 0 []=k (x.map pt):=f37_l2_eq x k hl _ 0 [] sM oM sM
theorem f37_l1_eq{t:ah}(h:Vd t)(R:List (List Int))(hR:Shape t.objs R)(k:List aa->List (List aa)->Option (List am×List (List aa)×Int)):∀(n i:Nat)(L:List aa)(M:List (List aa)),L=(t.objs.take i).map Rob->M=(R.take i).map (·.map pt)->i<=t.objs.length->t.objs.length<n+i->f37_l1 t k R n (i:Int) L M=k (t.objs.map Rob) (R.map (·.map pt))
 |0,i,_,_,_,_,_,h=>oM
 |n+1,i,L,M,hL,hM,hi,hn=>by
  have hlen:=hR.len;have ho:=h.vt.objs;rw[f37_l1,hlen];by_cases hh:i<t.objs.length;have hL':L.length=i:=by rw[hL,List.length_map,List.length_take];omega
  have hM':M.length=i:=by grind
  obtain⟨r,hr,hrl⟩:=hR.at (geG hh);have hoo:=h.oo _ (List.getElem_mem hh);have hri:R[i]'oM=r:=by grind
  have hsz:=hoo.sz;rw[ltT hh,cdT];simp only[aw];rw[aE oM,bnS,hri,f37_l2_0 r _ oM,bR _ (mg oM (by simp;omega)),aE hh,bnS,f69_eq hoo,bnS,bR _ (mg oM (by simp;omega)),wN oM];refine f37_l1_eq h R hR k n (i+1) _ _ ?_ ?_ oM oM;grind [List.take_succ_eq_append_getElem];grind [List.take_succ_eq_append_getElem];grind
theorem f37_l1_0{t:ah}(h:Vd t)(R:List (List Int))(hR:Shape t.objs R)(k:List aa->List (List aa)->Option (List am×List (List aa)×Int)):f37_l1 t k R (Int.toNat ((R.length:Int) - 0)+1) 0 [] []=k (t.objs.map Rob) (R.map (·.map pt)):=f37_l1_eq h R hR k _ 0 [] [] sM sM oM (by rw[hR.len];simp)
theorem uP{t:ah}(h:Vd t):Sh t.objs (t.objs.map Rob) ((store t).map (·.map pt)):=by
 have hS:=lE h.vt;have hf:=ud h.vt;have ho:=h.vt.objs;refine⟨sM,λv hv=>?_,oM,λo hm=>(h.oo o hm).sz,by simp[hS.len],λi r o hr hoo=>?_,λi r g v hr hg hv=>?_⟩;obtain⟨o,hm,rfl⟩:=List.mem_map.1 hv;exact xV (h.oo o hm);obtain⟨r',h1,h2⟩:=hS.at hoo;grind;rw[List.getElem?_map] at hr hg;cases hoo:t.objs[i]? with
 |none=>grind
 |some o=>rw[hoo,Option.map_some,aK] at hg;obtain⟨r',h1,h2⟩:=hS.at hoo;rw[h1,Option.map_some,aK] at hr;rw[<-hr] at hv;obtain⟨z,hz,rfl⟩:=List.mem_map.1 hv;have:=xy (h.oo o (List.mem_of_getElem? hoo)) (hf i r' o z h1 hoo hz);rw[<-hg];exact⟨this.1,this.2.1,this.2.2⟩
abbrev F0(n:Nat):List am:=List.replicate n ⟨false,λ_=>⟨0,0⟩⟩
theorem uc(n:Nat):FOk n (F0 n):=⟨List.length_replicate,λf hf=> .inr (List.mem_replicate.1 hf).2⟩
abbrev Q7:=Option (List am×List (List aa)×Int)
theorem f37_l5_ok{t:ah}{rg:List aa}(x:cq)(hx:∀v∈x.ins,oX t.objs v=true)(hl:x.ins.length<=100):∀(n i:Nat)(S:List (List aa)),Sh t.objs rg S->i<=x.ins.length->x.ins.length<n+i->∃S',(∀k:List (List aa)->List Int->List Int->Q7,f37_l5 rg k x n (i:Int) S=k S' x.ins x.outs)/\Sh t.objs rg S'
 |0,i,_,_,_,h=>oM
 |n+1,i,S,hS,hi,h=>by
  by_cases hh:i<x.ins.length;have h1:=hx _ (List.getElem_mem hh);have hix:=aE hh;generalize x.ins[i]=v at h1 hix;unfold oX at h1;cases ho:idx t.objs v with
  |none=>grind
  |some o=>rw[ho] at h1;simp only[decide_eq_true_eq] at h1;obtain⟨r,g,q1,q2,q3,q4,_⟩:=hS.at ho;obtain⟨z,hz,_⟩:=aI (L:=r) (i:=0) ⟨Int.le_refl _,oM⟩;obtain⟨S',e,hS'⟩:=f37_l5_ok x hx hl n (i+1) _ (hS.set q1 q2 q4 (Isub.refl _) (Int.toNat 0)) oM oM;grind [f37_l5,ltT,wN]
  grind [f37_l5]
theorem f37_l4_ok{t:ah}{rg:List aa}(x:bK)(hx:eo t x=true)(F:List am)(f:am):∀(n i:Nat)(S:List (List aa)),Sh t.objs rg S->i<=x.entries.length->x.entries.length<n+i->∃S',(∀k:List am->List (List aa)->Int->Int->List cq->Int->Q7,f37_l4 rg F k x f n (i:Int) S=k (F.set x.at_.toNat ⟨true,f.r⟩) S' x.prio x.at_ x.entries x.deadline)/\Sh t.objs rg S'
 |0,i,_,_,_,h=>oM
 |n+1,i,S,hS,hi,h=>by
  have hx':=hx;unfold eo at hx';simp only[Bool.and_eq_true,Bool.not_eq_true',Bool.or_eq_false_iff,decide_eq_false_iff_not,List.all_eq_true] at hx';obtain⟨⟨_,h8⟩,hent⟩:=hx';by_cases hh:i<x.entries.length;have he:=hent _ (List.getElem_mem hh);unfold eG dU at he;simp only[Bool.and_eq_true,decide_eq_true_eq,List.all_eq_true] at he;obtain⟨S1,e1,hS1⟩:=f37_l5_ok (t:=t) (rg:=rg) x.entries[i] he.1.2 oM (Int.toNat ((x.entries[i].ins.length:Int) - 0)+1) 0 S hS oM sM;obtain⟨S2,e2,hS2⟩:=f37_l4_ok x hx F f n (i+1) S1 hS1 oM oM;grind [f37_l4,ltT,aw,aE,wN];grind [f37_l4]
theorem f37_l3_ok{t:ah}{rg:List aa}(h:Vd t):∀(n i:Nat)(F:List am)(S:List (List aa)),FOk t.insns.length F->Sh t.objs rg S->i<=t.tasks.length->t.tasks.length<n+i->∃F' S',(∀k:List am->List (List aa)->Q7,f37_l3 t rg k n (i:Int) F S=k F' S')/\FOk t.insns.length F'/\Sh t.objs rg S'/\FUp F F'/\∀x∈t.tasks.drop i,∃f,idx F' x.at_=some f/\f.reached=true
 |0,i,_,_,_,_,_,h=>oM
 |n+1,i,F,S,hF,hS,hi,hn=>by
  have htl:=h.cx.bd.tasks;by_cases hh:i<t.tasks.length;have hx:=h.tk _ (List.getElem_mem hh);have hix:=aE hh;rw[aV hh];generalize t.tasks[i]=x at hx hix⊢;have hat:0<=x.at_/\x.at_<t.insns.length:=by have hx':=hx;unfold eo at hx';simp only[Bool.and_eq_true,Bool.not_eq_true',Bool.or_eq_false_iff,Bool.not_eq_false'] at hx';exact fx.1 hx'.1.1.1.1.2
  obtain⟨f,hf,hm⟩:=aI (L:=F) (i:=x.at_) ⟨hat.1,by rw[hF.l];exact hat.2⟩;obtain⟨S1,e1,hS1⟩:=f37_l4_ok (t:=t) (rg:=rg) x hx F f (Int.toNat ((x.entries.length:Int) - 0)+1) 0 S hS oM sM;have hne:RNe f.r:=by
   rcases hF.h f hm with h|h
   exact h.2;rw[h];exact uo
  have hup:FUp F (F.set x.at_.toNat ⟨true,f.r⟩):=⟨List.length_set,λb g hg=>by
   rw[kg hf];by_cases e:b=x.at_;rw[if_pos e];have:g=f:=by rw[e,hf,aK] at hg;exact hg.symm
   subst this;exact⟨_,rfl,λ_=>⟨rfl,RSub.refl _⟩⟩;rw[if_neg e];exact⟨g,hg,λe=>⟨e,RSub.refl _⟩⟩⟩
  obtain⟨F2,S2,e2,hF2,hS2,hU2,hT2⟩:=f37_l3_ok h n (i+1) _ S1 (hF.set (f:=⟨true,f.r⟩) ⟨rfl,hne⟩ x.at_.toNat) hS1 oM oM;refine⟨F2,S2,λk=>?_,hF2,hS2,hup.trans hU2,λy hy=>?_⟩;rw[f37_l3,ltT hh,cdT];simp only[aw];rw[hix,bnS,hf,bnS];refine(e1 (λl198 l199 _ _ _ _=>f37_l3 t rg k n (IntKind.i64.wrap ((i:Int)+1)) l198 l199)).trans ?_;rw[wN oM];exact e2 k;rcases List.mem_cons.1 hy with rfl|hy
  obtain⟨f',h1,h2⟩:=hU2.h _ _ (kh (y:=⟨true,f.r⟩) hf);exact⟨f',h1,(h2 rfl).1⟩;exact hT2 y hy;grind [FUp.refl,f37_l3]
def beg(t:ah):Q7:=f37_l3 t (t.objs.map Rob) (λF S=>some (F,S,0)) (Int.toNat ((t.tasks.length:Int) - 0)+1) 0 (F0 t.insns.length) ((store t).map (·.map pt))
theorem f37_beg{t:ah}(hs:Sz t)(hm:MayB t=true)(h:Vd t):∃F1 S1,beg t=some (F1,S1,0)/\f37 t=f37_l6 t (t.objs.map Rob) (λlw228 lw229 _ _=>some (lw228,lw229,0)) 9223372036854775808 1 F1 S1 0 (λ_=>(aa.mk 0 0))/\FOk t.insns.length F1/\Sh t.objs (t.objs.map Rob) S1/\∀x∈t.tasks,∃f,idx F1 x.at_=some f/\f.reached=true:=by have hn:=h.vt.n;obtain⟨F1,S1,e1,hF1,hS1,hU1,hT1⟩:=f37_l3_ok (rg:=t.objs.map Rob) h (Int.toNat ((t.tasks.length:Int) - 0)+1) 0 (F0 t.insns.length) _ (uc _) (uP h) oM sM;refine⟨F1,S1,e1 _,?_,hF1,hS1,by simpa using hT1⟩;unfold f37;rw[f23_eq t hs,hm,bnS,Bool.not_true,cdF,bR _ (mk264 oM oM)];simp only[aw];rw[f67_eq t hs hm,bnS,f37_l1_0 h (store t) (lE h.vt)];grind
structure Mk(t:ah)(F:List am)(S:List (List aa)):Prop where
 ok:FOk t.insns.length F
 sh:Sh t.objs (t.objs.map Rob) S
 tk:∀x∈t.tasks,∃f,idx F x.at_=some f/\f.reached=true
theorem f37_ok{t:ah}(hs:Sz t)(hm:MayB t=true)(h:Vd t):∃F S,f37 t=some (F,S,0)/\Mk t F S:=by have hn:=h.vt.n;obtain⟨F1,S1,_,e1,hF1,hS1,hT1⟩:=f37_beg hs hm h;obtain⟨F2,S2,p2,r2,e2,q2⟩:=uO (rg:=t.objs.map Rob) h.cx (λlw228 lw229 _ _=>some (lw228,lw229,0)) 300000000 (λF S hF hS=>yt hn.2 F S hF hS) oM 4 9223372036854775808 1 F1 S1 0 (λ_=>(aa.mk 0 0)) hF1 hS1 oM oM oM oM;refine⟨F2,S2,e1.trans e2,q2.ok,q2.sh,λx hx=>?_⟩;obtain⟨f,h1,h2⟩:=hT1 x hx;obtain⟨f',h3,h4⟩:=q2.up.h _ _ h1;grind
abbrev CS:=Bool×List am×List (List aa)
def xD(t:ah)(rg:List aa)(w:Bool)(a:Int)(s:CS):Option CS:=
 (idx s.2.1 a).bind λf=>bif !f.reached then some s else(idx t.insns a).bind λx=>(oA t rg s.2.1 s.2.2 a f.r x).bind λz=>
  (ed (f70_m2 rg w) z.1 (s.1,s.2.2)).bind λq=>(ed (f70_m3 w a) z.2 (q.1,s.2.1)).bind λu=>some (u.1,u.2,q.2)
def oG(t:ah)(rg:List aa)(w:Bool):Nat->Int->CS->Option CS
 |0,_,s=>some s
 |n+1,a,s=>(xD t rg w a s).bind (oG t rg w n (a+1))
def sL(t:ah)(rg:List aa):Nat->Int->List am->List (List aa)->Option (List am×List (List aa))
 |0,_,_,_=>none
 |d+1,n,F,S=>(oG t rg (decide (n>4)) t.insns.length 0 (false,F,S)).bind λs=>bif s.1 then sL t rg d (n+1) s.2.1 s.2.2 else some (s.2.1,s.2.2)
def vg(t:ah):Option (List am×List (List aa)):=(beg t).bind λz=>sL t (t.objs.map Rob) 60 1 z.1 z.2.1
theorem eK{α β:Type}{o:Option α}{f:α->Option β}{r:β}(h:o.bind f=some r):∃x,o=some x/\f x=some r:=by
 cases o with
 |none=>cases h
 |some x=>exact⟨x,rfl,h⟩
theorem kF{t:ah}{rg:List aa}{w:Bool}(cx:Cx t){fc:List am}(hfc:fc.length=t.insns.length):∀(m n i:Nat)(s s':CS)(p:Int)(r:Rgs),FOk t.insns.length s.2.1->Sh t.objs rg s.2.2->i+m=t.insns.length->t.insns.length<n+i->oG t rg w m (i:Int) s=some s'->(∃p' r',∀k:Bool->List am->List (List aa)->Int->Rgs->Option (Bool×Int×Rgs×List am×List (List aa)),f70_l1 t rg fc w k n s.1 (i:Int) s.2.1 s.2.2 p r=k s'.1 s'.2.1 s'.2.2 p' r')/\FOk t.insns.length s'.2.1/\Sh t.objs rg s'.2.2
 |_,0,i,_,_,_,_,_,_,_,h,_=>oM
 |0,n+1,i,s,s',p,r,hF,hS,hi,h,hc=>by
  obtain rfl:=inS hc;refine⟨⟨p,r,λk=>?_⟩,hF,hS⟩;rw[f70_l1,hfc,dcF oM,cdF]
 |m+1,n+1,i,s,s',p,r,hF,hS,hi,h,hc=>by
  have hbn:=cx.bd.n;obtain⟨c,F,S⟩:=s;dsimp only at hF hS⊢;rw[oG] at hc;obtain⟨s1,hc1,hc2⟩:=eK hc;rw[show(i:Int)+1=((i+1:Nat):Int) by push_cast;rfl] at hc2;unfold xD at hc1;dsimp only at hc1;obtain⟨f,hf,hc1⟩:=eK hc1;have hfm:=cO hf;have hh:i<t.insns.length:=oM;cases hr:f.reached with
  |false=>rw[hr,Bool.not_false,cdT,aK] at hc1;subst hc1;obtain⟨⟨p',r',e⟩,q1,q2⟩:=kF cx hfc m n (i+1) (c,F,S) s' p r hF hS oM oM hc2;refine⟨⟨p',r',λk=>?_⟩,q1,q2⟩;rw[f70_l1,hfc,ltT hh,cdT];simp only[aw];rw[hf,bnS,wN oM,hr,Bool.not_false,cdT];exact e k
  |true=>
   rw[hr,Bool.not_true,cdF] at hc1;obtain⟨x,hx,hc1⟩:=eK hc1;obtain⟨z0,hz0,hc1⟩:=eK hc1;have hrn:=hF.ne hfm hr;have hxm:=cO hx;obtain⟨w0,e58,hw0⟩:=f102_ok (t:=t) (rg:=rg) (fc:=F) (sl:=S) (pc:=(i:Int)) (rr:=f.r) (pl:=[]) WyOk.nil cx.bd.handlers true;obtain⟨z,efm,hz1,hz2⟩:=xP (rg:=rg) (fc:=F) (sl:=S) (pc:=(i:Int)) (rr:=f.r) (cx.io x hxm) cx.bd cx.ex hS hw0 hrn;have hways:oA t rg F S (i:Int) f.r x=some (z.2.1,z.2.2):=by unfold oA;rw[e58,bnS,efm,bnS]
   rw[hways,aK] at hz0;subst hz0;have hP2:=hz1.p2 hS;have hP3:=hz2.p3;rw[hF.l] at hP3;obtain⟨c1,S1,g1,s1',_,_,_⟩:=yQ (w:=w) z.2.1 S c hS hP2;obtain⟨c2,F1,g2,s2,_⟩:=yP (w:=w) (a:=(i:Int)) z.2.2 F c1 hF hP3;dsimp only at hc1;rw[g1,bnS] at hc1;dsimp only at hc1;rw[g2,bnS,aK] at hc1;subst hc1;obtain⟨⟨p',r',e⟩,q1,q2⟩:=kF cx hfc m n (i+1) (c2,F1,S1) s' (i:Int) z.1 s2.ok s1' oM oM hc2;refine⟨⟨p',r',λk=>?_⟩,q1,q2⟩;rw[f70_l1,hfc,ltT hh,cdT];simp only[aw];rw[hf,bnS,wN oM,hr];rw[Bool.not_true,cdF,bnS,e58,bnS,hx,bnS,f103_eq,bnS,efm,bnS];rw[gI (s':=(c1,S1)) λl hl=>(sH hS hl hz1.nd hP2).trans g1];dsimp only;rw[gI (s':=(c2,F1)) λl hl=>(sG hF hl hz2.nd hP3).trans g2];exact e k
theorem qj{t:ah}{rg:List aa}(cx:Cx t)(k:List am->List (List aa)->Int->Rgs->Option (List am×List (List aa)×Int)):∀(d fuel:Nat)(n:Int)(F:List am)(S:List (List aa))(p:Int)(r:Rgs)(F':List am)(S':List (List aa)),FOk t.insns.length F->Sh t.objs rg S->sL t rg d n F S=some (F',S')->d<=fuel->0<=n->n+d<1000000->∃p' r',f37_l6 t rg k fuel n F S p r=k F' S' p' r'
 |0,fuel,n,F,S,p,r,F',S',_,_,hc,_,_,_=>by cases hc
 |d+1,fuel,n,F,S,p,r,F',S',hF,hS,hc,hfu,hn,hnd=>by
  obtain⟨m,rfl⟩:∃m,fuel=m+1:=⟨fuel - 1,oM⟩;rw[sL] at hc;obtain⟨s,hc1,hc2⟩:=eK hc;obtain⟨⟨p1,r1,e⟩,q1,q2⟩:=kF (p:=p) (r:=r) cx hF.l t.insns.length (Int.toNat ((F.length:Int) - 0)+1) 0 (false,F,S) s hF hS oM (by rw[hF.l];simp) hc1;have e26:f70 t rg p r F S (decide (n>4))=some (s.1,p1,r1,s.2.1,s.2.2):=by unfold f70;rw[aw];exact e _
  rw[f37_l6,e26,bnS];dsimp only;cases hs:s.1 with
  |false=>rw[hs,cdF,aK,Prod.mk.injEq] at hc2;rw[<-hc2.1,<-hc2.2];exact⟨p1,r1,rfl⟩
  |true=>rw[hs,cdT] at hc2;rw[cdT,w64 oM oM];exact qj cx k d m (n+1) s.2.1 s.2.2 p1 r1 F' S' q1 q2 hc2 oM oM (by push_cast at hnd;omega)
theorem ve{t:ah}(hs:Sz t)(hm:MayB t=true)(h:Vd t){F:List am}{S:List (List aa)}(hc:vg t=some (F,S)):f37 t=some (F,S,0):=by obtain⟨F1,S1,hb,e1,hF1,hS1,_⟩:=f37_beg hs hm h;unfold vg at hc;rw[hb,bnS] at hc;obtain⟨p',r',e⟩:=qj (rg:=t.objs.map Rob) h.cx (λlw228 lw229 _ _=>some (lw228,lw229,0)) 60 9223372036854775808 1 F1 S1 0 (λ_=>(aa.mk 0 0)) F S hF1 hS1 hc oM oM oM;exact e1.trans e
def vz(t:ah):Option (List Int):=(vg t).bind λz=>f21_l1 t (z.1,z.2,0) (λl=>some l) (Int.toNat ((List.length z.1:Int) - 0)+1) 0 []
theorem vy{t:ah}(hs:Sz t)(hm:MayB t=true)(h:Vd t){L:List Int}(hc:vz t=some L):f21 t=some L:=by unfold vz at hc;obtain⟨z,h1,h2⟩:=eK hc;unfold f21;rw[ve hs hm h h1,bnS];exact h2
end Go.Proofs.YtlkhnkpflmpjhaaGreatDoor
namespace Go.Tw
open Go Go.Sk
def cnt(L:List Int)(t:Int):Nat:=L.countP λx=>decide (x<t)
def to(L:List Int)(a:Int):Int:=a - cnt L a
theorem ph(t:Int):cnt [] t=0:=rfl
theorem fb(x:Int)(L:List Int)(t:Int):cnt (x::L) t=cnt L t+if x<t then 1 else 0:=by unfold cnt;rw[List.countP_cons];by_cases h:x<t<;>simp[h]
theorem iK(L:List Int)(t:Int):cnt L t<=L.length:=List.countP_le_length
theorem eH{L:List Int}{t:Int}(h:∀x∈L,t<=x):cnt L t=0:=by unfold cnt;rw[List.countP_eq_zero];intro x hx;have:=h x hx;simp;omega
theorem iB{t:Int}:∀{L:List Int},L.Pairwise (·<·)->∀(h:Nat)(hh:h<L.length),(L[h]<t↔h<cnt L t)
 |[],_,h,hh=>by simp at hh
 |x::L,hp,0,hh=>by
  rw[fb];have h1:=List.pairwise_cons.1 hp;by_cases hx:x<t;simp[hx];rw[eH (t:=t) λy hy=>by have:=h1.1 y hy;omega];simp[hx]
 |x::L,hp,h+1,hh=>by
  have h1:=List.pairwise_cons.1 hp;have h2:=iB (t:=t) h1.2 h (by simpa using hh);rw[List.getElem_cons_succ,h2,fb];by_cases hx:x<t;simp[hx];rw[eH (t:=t) λy hy=>by have:=h1.1 y hy;omega];simp[hx]
theorem qG(L:List Int){a b:Int}(h:a<=b):cnt L a<=cnt L b:=by
 induction L with
 |nil=>exact Nat.le_refl _
 |cons x L ih=>rw[fb,fb];split<;>split<;>omega
theorem iW:∀{L:List Int},L.Pairwise (·<·)->∀{a b:Int},a<=b->(cnt L b:Int)<=cnt L a+(b - a)/\(a∉L->a<b->(cnt L b:Int)<cnt L a+(b - a))
 |[],_,a,b,h=>by rw[ph,ph];exact⟨oM,λ_ _=>oM⟩
 |x::L,hp,a,b,h=>by
  have h1:=List.pairwise_cons.1 hp;rw[fb,fb];by_cases hxa:x<a;have h2:=iW h1.2 h;rw[if_pos hxa,if_pos oM];exact⟨oM,λhn hl=>by have:=h2.2 (λhm=>hn (List.mem_cons_of_mem _ hm)) hl;omega⟩;by_cases hxb:x<b;rw[if_neg hxa,if_pos hxb];have h0:cnt L (x+1)=0:=eH λy hy=>by have:=h1.1 y hy;omega
  have h00:cnt L a=0:=eH λy hy=>by have:=h1.1 y hy;omega
  have h2:=(iW h1.2 (a:=x+1) (b:=b) oM).1;refine⟨oM,λhn _=>?_⟩;have:a≠x:=λe=>hn (by rw[e];exact List.mem_cons_self);omega;rw[if_neg hxa,if_neg hxb];have h0:cnt L a=0:=eH λy hy=>by have:=h1.1 y hy;omega
  have h2:cnt L b=0:=eH λy hy=>by have:=h1.1 y hy;omega
  exact⟨oM,λ_ _=>oM⟩
structure Both(A B All:List Int):Prop where
 a:A.Pairwise (·<·)
 b:B.Pairwise (·<·)
 all:All.Pairwise (·<·)
 dis:∀x∈B,x∉A
 mem:∀x,x∈All↔x∈A\/x∈B
 cnt:∀t,cnt All t=cnt A t+Tw.cnt B t
end Go.Tw
namespace Go.Proofs.YtlkhnkpflmpjhaaGreatDoor
open Go Go.Sk Go.Tw
theorem tG{x:Int}(h1: -9223372036854775808<=x)(h2:x<=9223372036854775807):IntKind.i64.wrap x=x:=by rw[IntKind.wrap_i64];omega
theorem jg{α β:Sort _}(k:α)(f:α->β):letk k f=f k:=rfl
theorem l8{α:Type}{L:List α}{i:Nat}(h:i<L.length):idx L (i:Int)=some L[i]:=by unfold idx;rw[dcT (Int.natCast_nonneg i)];simp[h]
theorem tmid{i j:Nat}(h:i<=2305843009213693952)(h2:j<=2305843009213693952):IntKind.i64.wrap (Int.fdiv (IntKind.u64.wrap (IntKind.i64.wrap ((i:Int)+(j:Int)))) (2^min (Int.toNat 1) IntKind.u64.bits))=(((i+j) / 2:Nat):Int):=by rw[tG (x:=(i:Int)+j) oM oM,show IntKind.u64.wrap ((i:Int)+j)=(i:Int)+j by simp only[IntKind.wrap,IntKind.bits,IntKind.signed];simp;omega];rw[show((2:Int)^min (Int.toNat 1) IntKind.u64.bits)=2 by decide,Int.fdiv_eq_ediv_of_nonneg _ dC];rw[tG oM oM];omega
theorem tless(a b:Int):f76 a b=decide (a<b):=by unfold f76 f108;simp
theorem pi(L:List Int)(t:Int)(hp:L.Pairwise (·<·))(hl:L.length<2305843009213693952)(K:Int->Option (Int×Bool)):∀(d n i j:Nat),j<=i+d->d<n->i<=cnt L t->cnt L t<=j->j<=L.length->f45_l1 L t K n (i:Int) (j:Int)=K (cnt L t:Int)
 |d,0,i,j,_,h,_,_,_=>oM
 |d,n+1,i,j,hd,hn,h1,h2,h3=>by
  rw[f45_l1];by_cases hij:i<j;rw[dcT (show(i:Int)<(j:Int) by omega),cdT,tmid oM oM,l8 (show(i+j) / 2<L.length by omega),bnS,tless];have h4:=iB (t:=t) hp ((i+j) / 2) oM;by_cases hx:L[(i+j) / 2]<t;have h5:=h4.1 hx;rw[dcT hx,cdT,tG oM oM,show(((i+j) / 2:Nat):Int)+1=(((i+j) / 2+1:Nat):Int) by push_cast;rfl];exact pi L t hp hl K (d - 1) n _ _ oM oM oM h2 h3;have h5:¬(i+j) / 2<cnt L t:=λh=>hx (h4.2 h);rw[dcF hx,cdF];exact pi L t hp hl K (d - 1) n _ _ oM oM h1 oM oM;rw[dcF (show¬(i:Int)<(j:Int) by omega),cdF,show cnt L t=i by omega]
theorem xT(L:List Int)(t:Int)(hp:L.Pairwise (·<·))(hl:L.length<2305843009213693952):f45 L t=some ((cnt L t:Int),decide (t∈L)):=by
 unfold f45;obtain⟨F,hF⟩:∃F:Nat,F=9223372036854775808:=⟨_,rfl⟩;rw[jg,<-hF,show(0:Int)=((0:Nat):Int) from rfl,pi L t hp hl _ L.length F 0 L.length oM oM (Nat.zero_le _) (iK L t) (Nat.le_refl _)];by_cases h:cnt L t<L.length;rw[dcT (show((cnt L t:Nat):Int)<(L.length:Int) by omega),cdT,l8 h,bnS];have h4:=iB (t:=t) hp (cnt L t) h;by_cases hx:L[cnt L t]=t;rw[dcT hx,cdT,bnS,bnS,dcT (show t∈L from hx▸List.getElem_mem h)];have hn:t∉L:=λhm=>by
  obtain⟨m,hm1,hm2⟩:=List.getElem_of_mem hm;have h5:=iB (t:=t) hp m hm1;rcases Nat.lt_trichotomy m (cnt L t) with h6|h6|h6
  have:=h5.2 h6;omega;subst h6;exact hx hm2;have:=List.pairwise_iff_getElem.1 hp _ _ h hm1 h6;have:=h4.1 oM;omega
 rw[dcF hx,cdF,show(f77 t)=false by unfold f77;simp,bnS,Bool.and_false,bnS,bnS,dcF hn];have hn:t∉L:=λhm=>by
  obtain⟨m,hm1,hm2⟩:=List.getElem_of_mem hm;have h5:=iB (t:=t) hp m hm1;have:=h5.2 oM;omega
 rw[dcF oM,cdF,bnS,dcF hn]
theorem jf(a:Int)(L:List Int)(hp:L.Pairwise (·<·))(hl:L.length<2305843009213693952)(ha: -4611686018427387904<=a)(ha2:a<4611686018427387904):f44 a L=some (to L a):=by unfold f44;have:=iK L a;rw[xT L a hp hl,bnS,tG (by simp only;omega) (by simp only;omega)];rfl
theorem sT(a:Int)(L:List Int)(hp:L.Pairwise (·<·))(hl:L.length<2305843009213693952):f46 a L=some (decide (a∈L)):=by unfold f46;rw[xT L a hp hl];rfl
def mvI(L:List Int)(x:aG):aG:=aG.mk x.op x.d x.a x.b x.n x.m (if jmp x=true then to L x.to else x.to)
def rmI(L:List Int):Int->List aG->List aG
 |_,[]=> []
 |i,x::xs=>if i∈L then rmI L (i+1) xs else mvI L x::rmI L (i+1) xs
def mvH(L:List Int)(h:bi):bi:=bi.mk (to L h.from_) (to L h.to) (to L h.at_) h.clean
def okH(h:bi):Bool:=decide (h.from_<h.to)
def mvL(L:List Int)(x:Loop):Loop:=Loop.mk (to L x.head) (to L x.back) x.bound
def mvC(L:List Int)(c:c4):c4:=c4.mk (to L c.at_) c.kind
def mvA(L:List Int)(a:dI):dI:=dI.mk a.kind a.entry a.guard a.time (to L a.at_)
def mvS(L:List Int)(s:bU):bU:=bU.mk (s.alts.map (mvA L)) s.obj (if s.else_>=0 then to L s.else_ else s.else_)
def mvK(L:List Int)(k:bK):bK:=bK.mk k.prio (to L k.at_) k.entries k.deadline
def rmT(L:List Int)(t:ah):ah:=ah.mk (rmI L 0 t.insns) ((t.handlers.map (mvH L)).filter okH) (t.loops.map (mvL L)) (t.selects.map (mvS L)) t.lists t.objs t.inits t.excs (t.tasks.map (mvK L)) t.prots ((t.checks.filter λc=> !decide (c.at_∈L)).map (mvC L))
theorem mT{L:List Int}(hp:L.Pairwise (·<·))(i:Int):cnt L (i+1)=cnt L i+if i∈L then 1 else 0:=by
 induction L with
 |nil=>rfl
 |cons x L ih=>
  have h1:=List.pairwise_cons.1 hp;rw[fb,fb,ih h1.2];by_cases hx:x=i;subst hx;rw[if_neg (show x∉L from λhm=>by have:=h1.1 x hm;omega),if_pos (show x<x+1 by omega),if_neg (show¬x<x by omega),if_pos (List.mem_cons_self)];have e:(i∈x::L)↔i∈L:=by rw[List.mem_cons];exact⟨λh=>h.resolve_left λe=>hx e.symm, .inr⟩
  simp only[e];by_cases h2:x<i;rw[if_pos h2,if_pos (show x<i+1 by omega)];omega;rw[if_neg h2,if_neg (show¬x<i+1 by omega)];omega
section
variable{A B All:List Int}(h:Both A B All)
include h
end
theorem tlt{i n:Nat}(h:i<n):decide ((i:Int)<(n:Int))=true:=dcT oM
theorem oE{i n:Nat}(h:¬i<n):decide ((i:Int)<(n:Int))=false:=dcF oM
theorem tw1{i:Nat}(h:i<=1000000):IntKind.i64.wrap ((i:Int)+1)=((i+1:Nat):Int):=by rw[tG oM oM];push_cast;rfl
theorem gH{α:Type}{c:Bool}(o:Option α)(h:c=true):aH c o=o:=by rw[h];rfl
theorem oF{α:Type}{n:Nat}{L M:List α}(hn:n<=100)(hl:L.length+M.length<=1000000):de n L M=true:=by unfold de;have:(L.length+M.length)*n<=1000000*100:=Nat.mul_le_mul hl hn;simp only[Bool.and_eq_true,decide_eq_true_eq];exact⟨by unfold maxLen;omega,oM⟩
section
variable(t:ah)(L:List Int)(hp:L.Pairwise (·<·))(hl:L.length<2305843009213693952)
include hp hl
theorem rC(h0:t.insns.length<=100000)(hb:∀x∈t.insns,jmp x=true->Pl x.to)(K:List aG->Option (ah×Int)):∀(n i:Nat)(acc:List aG),i<=t.insns.length->t.insns.length<n+i->acc.length<=i->f22_l3 t L K n (i:Int) acc=K (acc++rmI L i (t.insns.drop i))
 |0,i,acc,_,h,_=>oM
 |n+1,i,acc,hi,hn,ha=>by
  rw[f22_l3];by_cases hlt:i<t.insns.length;have e1:((i:Int)+1)=((i+1:Nat):Int):=by push_cast;rfl
  rw[tlt hlt,cdT,jg,l8 hlt,bnS,sT _ L hp hl,bnS,tw1 oM,List.drop_eq_getElem_cons hlt,rmI];by_cases hm:(i:Int)∈L;rw[dcT hm,cdT,if_pos hm,e1];exact rC h0 hb K n (i+1) acc oM oM oM;rw[dcF hm,cdF,if_neg hm,jg,e1];have key:∀c:Int,c=(if jmp t.insns[i]=true then to L t.insns[i].to else t.insns[i].to)->(aH (de 56 acc [(aG.mk t.insns[i].op t.insns[i].d t.insns[i].a t.insns[i].b t.insns[i].n t.insns[i].m c)])<|f22_l3 t L K n ((i+1:Nat):Int) (acc++ [(aG.mk t.insns[i].op t.insns[i].d t.insns[i].a t.insns[i].b t.insns[i].n t.insns[i].m c)]))=K (acc++mvI L t.insns[i]::rmI L ((i+1:Nat):Int) (t.insns.drop (i+1))):=λc hc=>by
   rw[gH _ (oF dC (by simp only[List.length_singleton];omega)),rC h0 hb K n (i+1) _ oM oM (by simp only[List.length_append,List.length_singleton];omega),List.append_assoc];subst hc;rfl
  cases hj:jmp t.insns[i] with
  |true=>have hpl:=hb _ (List.getElem_mem hlt) hj;rw[show(((decide (t.insns[i].op>=29))&&(decide (t.insns[i].op<=32)))||(decide (t.insns[i].op=52)))=true from hj,cdT,jf _ L hp hl hpl.1 hpl.2,bnS];exact key _ (by rw[hj];rfl)
  |false=>rw[show(((decide (t.insns[i].op>=29))&&(decide (t.insns[i].op<=32)))||(decide (t.insns[i].op=52)))=false from hj,cdF];exact key _ (by rw[hj];rfl)
  rw[oE hlt,cdF,List.drop_eq_nil_of_le oM,rmI,List.append_nil]
theorem rB(h0:t.handlers.length<=100000)(hb:∀x∈t.handlers,Pl x.from_/\Pl x.to/\Pl x.at_)(K:List bi->Option (ah×Int)):∀(n i:Nat)(acc:List bi),i<=t.handlers.length->t.handlers.length<n+i->acc.length<=i->f22_l4 t L K n (i:Int) acc=K (acc++((t.handlers.drop i).map (mvH L)).filter okH)
 |0,i,acc,_,h,_=>oM
 |n+1,i,acc,hi,hn,ha=>by
  rw[f22_l4];by_cases hlt:i<t.handlers.length;obtain⟨b1,b2,b3⟩:=hb _ (List.getElem_mem hlt);rw[tlt hlt,cdT,jg,l8 hlt,bnS,jf _ L hp hl b1.1 b1.2,bnS,jf _ L hp hl b2.1 b2.2,bnS,jf _ L hp hl b3.1 b3.2,bnS,tw1 oM,List.drop_eq_getElem_cons hlt,List.map_cons,List.filter_cons];cases hk:okH (mvH L t.handlers[i]) with
  |true=>rw[show decide (to L t.handlers[i].from_<to L t.handlers[i].to)=true from hk,cdT,if_pos rfl,gH _ (oF dC (by simp only[List.length_singleton];omega))];refine(rB h0 hb K n (i+1) _ oM oM (by simp only[List.length_append,List.length_singleton];omega)).trans ?_;rw[List.append_assoc];rfl
  |false=>rw[show decide (to L t.handlers[i].from_<to L t.handlers[i].to)=false from hk,cdF,if_neg dC];exact rB h0 hb K n (i+1) acc oM oM oM
  rw[oE hlt,cdF,List.drop_eq_nil_of_le oM,List.map_nil,List.filter_nil,List.append_nil]
theorem uW(h0:t.loops.length<=100000)(hb:∀x∈t.loops,Pl x.head/\Pl x.back)(K:List Loop->Option (ah×Int)):∀(n i:Nat)(acc:List Loop),i<=t.loops.length->t.loops.length<n+i->acc.length<=i->f22_l5 t L K n (i:Int) acc=K (acc++(t.loops.drop i).map (mvL L))
 |0,i,acc,_,h,_=>oM
 |n+1,i,acc,hi,hn,ha=>by
  rw[f22_l5];by_cases hlt:i<t.loops.length;obtain⟨b1,b2⟩:=hb _ (List.getElem_mem hlt);rw[tlt hlt,cdT,l8 hlt,bnS,jf _ L hp hl b1.1 b1.2,bnS,jf _ L hp hl b2.1 b2.2,bnS,tw1 oM,List.drop_eq_getElem_cons hlt,List.map_cons,gH _ (oF dC (by simp only[List.length_singleton];omega)),uW h0 hb K n (i+1) _ oM oM (by simp only[List.length_append,List.length_singleton];omega),List.append_assoc];rfl;rw[oE hlt,cdF,List.drop_eq_nil_of_le oM,List.map_nil,List.append_nil]
theorem rA(h0:t.checks.length<=100000)(hb:∀x∈t.checks,Pl x.at_)(K:List c4->Option (ah×Int)):∀(n i:Nat)(acc:List c4),i<=t.checks.length->t.checks.length<n+i->acc.length<=i->f22_l6 t L K n (i:Int) acc=K (acc++((t.checks.drop i).filter λc=> !decide (c.at_∈L)).map (mvC L))
 |0,i,acc,_,h,_=>oM
 |n+1,i,acc,hi,hn,ha=>by
  rw[f22_l6];by_cases hlt:i<t.checks.length;have b1:=hb _ (List.getElem_mem hlt);rw[tlt hlt,cdT,jg,l8 hlt,bnS,sT _ L hp hl,bnS,tw1 oM,List.drop_eq_getElem_cons hlt,List.filter_cons];by_cases hm:t.checks[i].at_∈L;rw[dcT hm,Bool.not_true,cdF,if_neg dC];exact rA h0 hb K n (i+1) acc oM oM oM;rw[dcF hm,Bool.not_false,cdT,if_pos rfl,jf _ L hp hl b1.1 b1.2,bnS,List.map_cons,gH _ (oF dC (by simp only[List.length_singleton];omega))];refine(rA h0 hb K n (i+1) _ oM oM (by simp only[List.length_append,List.length_singleton];omega)).trans ?_;rw[List.append_assoc];rfl;rw[oE hlt,cdF,List.drop_eq_nil_of_le oM,List.filter_nil,List.map_nil,List.append_nil]
end
def eZ{α:Type}(f:α->α)(r:List α)(i:Nat):List α:=(r.take i).map f++r.drop i
theorem nK{α:Type}(f:α->α)(r:List α)(i:Nat):(eZ f r i).length=r.length:=by unfold eZ;rw[List.length_append,List.length_map,List.length_take,List.length_drop];omega
theorem kH{α:Type}(f:α->α){r:List α}{i:Nat}(h:i<r.length):idx (eZ f r i) (i:Int)=some r[i]:=by
 rw[l8 (by rw[nK];exact h)];congr 1;have e:((r.take i).map f).length=i:=by rw[List.length_map,List.length_take];omega
 simp only[eZ];rw[List.getElem_append_right oM,List.getElem_drop];congr 1;omega
theorem kG{α:Type}(f:α->α){r:List α}{i:Nat}(h:i<r.length):(eZ f r i).set i (f r[i])=eZ f r (i+1):=by
 have e:((r.take i).map f).length=i:=by rw[List.length_map,List.length_take];omega
 unfold eZ;rw[List.set_append_right _ _ oM,e,Nat.sub_self,List.drop_eq_getElem_cons h,List.set_cons_zero,List.take_add_one,geG h,List.map_append,List.append_assoc];rfl
theorem kI{α:Type}(f:α->α)(r:List α){i:Nat}(h:r.length<=i):eZ f r i=r.map f:=by unfold eZ;rw[List.take_of_length_le h,List.drop_eq_nil_of_le h,List.append_nil]
theorem uX{α:Type}{L:List α}{i:Nat}(h:i<L.length)(x:α):idx (List.set L i x) (i:Int)=some x:=by rw[l8 (by rw[List.length_set];exact h),List.getElem_set_self]
section
variable(L:List Int)(hp:L.Pairwise (·<·))(hl:L.length<2305843009213693952)
include hp hl
theorem uU(r:List bK)(h0:r.length<=100000)(hb:∀x∈r,Pl x.at_)(K:List bK->Option (ah×Int)):∀(n i:Nat),i<=r.length->r.length<n+i->f22_l9 L r K n (i:Int) (eZ (mvK L) r i)=K (r.map (mvK L))
 |0,i,_,h=>oM
 |n+1,i,hi,hn=>by
  rw[f22_l9];by_cases hlt:i<r.length;have b1:=hb _ (List.getElem_mem hlt);rw[tlt hlt,cdT,kH _ hlt,bnS,jf _ L hp hl b1.1 b1.2,bnS,bnS,tw1 oM,Int.toNat_natCast];exact(congrArg (f22_l9 L r K n ((i+1:Nat):Int)) (kG (mvK L) hlt)).trans (uU r h0 hb K n (i+1) oM oM);rw[oE hlt,cdF,kI _ _ oM]
theorem uV(r:List dI)(h0:r.length<=100000)(hb:∀x∈r,Pl x.at_)(K:List dI->Option (ah×Int)):∀(n i:Nat),i<=r.length->r.length<n+i->f22_l8 L r K n (i:Int) (eZ (mvA L) r i)=K (r.map (mvA L))
 |0,i,_,h=>oM
 |n+1,i,hi,hn=>by
  rw[f22_l8];by_cases hlt:i<r.length;have b1:=hb _ (List.getElem_mem hlt);rw[tlt hlt,cdT,kH _ hlt,bnS,jf _ L hp hl b1.1 b1.2,bnS,bnS,tw1 oM,Int.toNat_natCast];exact(congrArg (f22_l8 L r K n ((i+1:Nat):Int)) (kG (mvA L) hlt)).trans (uV r h0 hb K n (i+1) oM oM);rw[oE hlt,cdF,kI _ _ oM]
theorem rz(r:List bU)(h0:r.length<=100000)(h1:∀x∈r,x.alts.length<=100000)(hb:∀x∈r,∀a∈x.alts,Pl a.at_)(he:∀x∈r,Pl x.else_)(K:List bU->Option (ah×Int)):∀(n i:Nat),i<=r.length->r.length<n+i->f22_l7 L r K n (i:Int) (eZ (mvS L) r i)=K (r.map (mvS L))
 |0,i,_,h=>oM
 |n+1,i,hi,hn=>by
  rw[f22_l7];by_cases hlt:i<r.length;have hm:=List.getElem_mem hlt;have ha:=h1 _ hm;have b2:=he _ hm;have hls:i<(eZ (mvS L) r i).length:=by rw[nK];exact hlt
  have e8:=λK2=>uV L hp hl r[i].alts ha (hb _ hm) K2 (Int.toNat ((r[i].alts.length:Int) - 0)+1) 0 (Nat.zero_le _) oM;have z:eZ (mvA L) r[i].alts 0=r[i].alts:=by unfold eZ;simp
  rw[z,show((0:Nat):Int)=0 from rfl] at e8;rw[tlt hlt,cdT,jg,kH _ hlt,bnS,f49o,gH _ (oF dC (by simp only[List.length_nil];omega)),bnS,jg,e8,tw1 oM,Int.toNat_natCast];dsimp only;rw[uX hls,bnS];have hs:=kG (mvS L) hlt;by_cases hx:r[i].else_>=0;rw[dcT (show(bU.mk (List.map (mvA L) r[i].alts) r[i].obj r[i].else_).else_>=0 from hx),cdT,bnS,jf _ L hp hl b2.1 b2.2,bnS,bnS,List.set_set];have e:mvS L r[i]=bU.mk (r[i].alts.map (mvA L)) r[i].obj (to L r[i].else_):=by unfold mvS;rw[if_pos hx]
  rw[e] at hs;exact(congrArg (f22_l7 L r K n ((i+1:Nat):Int)) hs).trans (rz r h0 h1 hb he K n (i+1) oM oM);rw[dcF (show¬(bU.mk (List.map (mvA L) r[i].alts) r[i].obj r[i].else_).else_>=0 from hx),cdF];have e:mvS L r[i]=bU.mk (r[i].alts.map (mvA L)) r[i].obj r[i].else_:=by unfold mvS;rw[if_neg hx]
  rw[e] at hs;exact(congrArg (f22_l7 L r K n ((i+1:Nat):Int)) hs).trans (rz r h0 h1 hb he K n (i+1) oM oM);rw[oE hlt,cdF,kI _ _ oM]
end
theorem vq(L:List Int)(h0:L.length<=100000)(K:List Int->Option (ah×Int)):∀(n i:Nat),i<=L.length->L.length<n+i->f22_l1 L K n (i:Int) (L.take i)=K L
 |0,i,_,h=>oM
 |n+1,i,hi,hn=>by
  rw[f22_l1];by_cases hlt:i<L.length;have e:L.take i++ [L[i]]=L.take (i+1):=(List.take_succ_eq_append_getElem hlt).symm;rw[tlt hlt,cdT,l8 hlt,bnS,jg,gH _ (oF dC (by simp only[List.length_singleton,List.length_take];omega)),tw1 oM,e];exact vq L h0 K n (i+1) oM oM;rw[oE hlt,cdF,List.take_of_length_le oM]
theorem vp(t:ah)(L:List Int)(hp:L.Pairwise (·<·))(hc:∀x∈L,chk t x=true)(h0:L.length<=100000)(K:Unit->Option (ah×Int)):∀(n i:Nat),i<=L.length->L.length<n+i->f22_l2 t L K n (i:Int)=K ()
 |0,i,_,h=>oM
 |n+1,i,hi,hn=>by
  rw[f22_l2];by_cases hlt:i<L.length;rw[tlt hlt,cdT,l8 hlt,bnS,f43_eq,hc _ (List.getElem_mem hlt),bnS,Bool.not_true,cdF,tw1 oM];have ih:=vp t L hp hc h0 K n (i+1) oM oM;by_cases hz:i=0;subst hz;rw[dcF (show¬((0:Nat):Int)>0 by omega),cdF,bnS,bnS,cdF];exact ih;rw[dcT (show(i:Int)>0 by omega),cdT,tG oM oM,show(i:Int) - 1=((i - 1:Nat):Int) by omega,l8 (show i - 1<L.length by omega),bnS,bnS,bnS];have:=List.pairwise_iff_getElem.1 hp (i - 1) i oM hlt oM;rw[dcF (show¬L[i - 1]=L[i] by omega),cdF];exact ih;rw[oE hlt,cdF]
theorem jU(n:Nat):n<Int.toNat ((n:Int) - 0)+1+0:=oM
theorem oQ(L:List Int):∀(xs:List aG)(i:Int)(y:aG),y∈rmI L i xs->∃x∈xs,y=mvI L x
 |[],_,y,h=>by cases h
 |x::xs,i,y,h=>by
  rw[rmI] at h;split at h;obtain⟨z,h1,h2⟩:=oQ L xs (i+1) y h;exact⟨z,List.mem_cons_of_mem _ h1,h2⟩;rcases List.mem_cons.1 h with h|h
  exact⟨x,List.mem_cons_self,h⟩;obtain⟨z,h1,h2⟩:=oQ L xs (i+1) y h;exact⟨z,List.mem_cons_of_mem _ h1,h2⟩
theorem Sz.rm{t:ah}(hs:Sz t)(L:List Int):Sz (rmT L t):=
 ⟨λy hy=>by
  obtain⟨x,hx,e⟩:=oQ L t.insns 0 y hy;subst e;exact hs.ops x hx,hs.inits,hs.sets,hs.lists,hs.prots,by
  show((t.checks.filter _).map _).length<_;rw[List.length_map];have:=List.length_filter_le (λc:c4=> !decide (c.at_∈L)) t.checks;have:=hs.checks;omega⟩
abbrev gT:ah:=ah.mk [] [] [] [] [] [] [] 0 [] [] []
theorem f22_eq(t:ah)(L:List Int)(hs:Sz t)(hm:MayB t=true)(hp:L.Pairwise (·<·))(hc:∀x∈L,chk t x=true)(h0:L.length<=100000):f22 t L=some (bif MayB (rmT L t) then(rmT L t,0) else(gT,230)):=by
 have hb:=Bdt.of hs hm;have hn:=hb.n;have hl:L.length<2305843009213693952:=oM;have z0:∀{α:Type}(f:α->α)(r:List α),eZ f r 0=r:=λf r=>by unfold eZ;simp
 have s1:=λK=>vq L h0 K _ 0 (Nat.zero_le _) (jU L.length);have s2:=λK=>vp t L hp hc h0 K _ 0 (Nat.zero_le _) (jU L.length);have s3:=λK=>rC t L hp hl oM hb.plI K _ 0 [] (Nat.zero_le _) (jU t.insns.length) (Nat.zero_le _);have s4:=λK=>rB t L hp hl (by have:=hb.handlers;omega) hb.plH K _ 0 [] (Nat.zero_le _) (jU t.handlers.length) (Nat.zero_le _);have s5:=λK=>uW t L hp hl (by have:=hb.loops;omega) hb.plL K _ 0 [] (Nat.zero_le _) (jU t.loops.length) (Nat.zero_le _);have s6:=λK=>rA t L hp hl (by have:=hb.checks;omega) hb.plC K _ 0 [] (Nat.zero_le _) (jU t.checks.length) (Nat.zero_le _);have s7:=λK=>rz L hp hl t.selects (by have:=hb.selects;omega) (λx hx=>by have:=hb.alts x hx;omega) hb.plA hb.plE K _ 0 (Nat.zero_le _) (jU t.selects.length);have s9:=λK=>uU L hp hl t.tasks (by have:=hb.tasks;omega) hb.plK K _ 0 (Nat.zero_le _) (jU t.tasks.length);rw[z0] at s7 s9;simp only[List.nil_append,List.drop_zero] at s3 s4 s5 s6;rw[show((0:Nat):Int)=0 from rfl] at s1 s2 s3 s4 s5 s6 s7 s9;rw[List.take_zero] at s1;have sort:f73 L=some L:=by unfold f73;rw[gH _ (dcT oM)];congr 1;refine List.mergeSort_of_pairwise ?_;exact hp.imp λh=>dcT oM
 unfold f22;rw[f23_eq t hs,bnS,hm,Bool.not_true,cdF];simp only[jg];rw[s1,sort,bnS,s2,s3,s4,s5,s6];rw[f47n,gH _ (oF dC (by have:=hb.selects;simp only[List.length_nil];omega)),bnS,f48n,gH _ (oF dC (by have:=hb.tasks;simp only[List.length_nil];omega)),bnS,s7,s9];refine(congrArg (λo=>Option.bind o _) (f23_eq (rmT L t) (hs.rm L))).trans ?_;rw[bnS];cases MayB (rmT L t)<;>rfl
structure Ck(t:ah)(L:List Int):Prop where
 p:L.Pairwise (·<·)
 c:∀x∈L,chk t x=true
theorem w5{t:ah}{F:List am}(S:List (List aa))(cx:Cx t)(hF:F.length=t.insns.length):∃L,f21_l1 t (F,S,0) (λl=>some l) (Int.toNat ((F.length:Int) - 0)+1) 0 []=some L/\Ck t L:=by
 have hn:=cx.bd.n.2;obtain⟨L,e,h⟩:=vj F (λn i lw=>f21_l1 t (F,S,0) (λl=>some l) n i lw) (λl=>some l) (λi lw=>lw.length<=i/\lw.Pairwise (·<·)/\∀x∈lw,x<i/\chk t x=true)
  (λn i hi lw ⟨h1,h2,h3⟩=>by
   have key:chk t i=true->∀b:Bool,∃s',(bif b then aH (de 8 lw [(i:Int)]) (f21_l1 t (F,S,0) (λl=>some l) n (IntKind.i64.wrap (i+1)) (lw++ [(i:Int)])) else f21_l1 t (F,S,0) (λl=>some l) n (IntKind.i64.wrap (i+1)) lw)=f21_l1 t (F,S,0) (λl=>some l) n ((i+1:Nat):Int) s'/\s'.length<=i+1/\s'.Pairwise (·<·)/\∀x∈s',x<((i+1:Nat):Int)/\chk t x=true:=λhc b=>by
    cases b with
    |true=>
     refine⟨lw++ [(i:Int)],?_,by simpa using h1,?_,λx hx=>?_⟩;rw[cdT,bR _ (oF dC (by simp;omega)),wN oM];rw[List.pairwise_append];exact⟨h2,sM,λx hx y hy=>by rw[List.mem_singleton] at hy;subst hy;exact(h3 x hx).1⟩;rcases List.mem_append.1 hx with hx|hx
     have:=h3 x hx;exact⟨oM,this.2⟩;rw[List.mem_singleton] at hx;subst hx;exact⟨oM,hc⟩
    |false=>exact⟨lw,by rw[cdF,wN oM],oM,h2,λx hx=>⟨by have:=(h3 x hx).1;omega,(h3 x hx).2⟩⟩
   have hit:i<t.insns.length:=oM;rw[f21_l1];rw[ltT hi,cdT];simp only[aw];rw[aE hi,bnS,aE hit,bnS];have ha:=(cx.io _ (List.getElem_mem hit)).r.a;by_cases hop:(t.insns[i]).op=27\/(t.insns[i]).op=28;have hc:chk t i=true:=by unfold chk;rw[aE hit];simpa using hop
   have hv:bS 16 (t.insns[i]).a=true:=dv (by have:=ha oM;omega);have e1:((!decide ((t.insns[i]).op=27))&&(!decide ((t.insns[i]).op=28)))=false:=by rcases hop with h|h<;>simp[h]
   rw[e1,cdF,bR _ hv,bR _ hv];cases (F[i]).reached with
   |false=>exact key hc true
   |true=>generalize f38 _ _=b1;generalize f40 _ _=b2;generalize decide ((t.insns[i]).op=27)=b3;generalize decide ((t.insns[i]).op=28)=b4;cases b3<;>cases b1<;>cases b4<;>cases b2<;>first|exact key hc true|exact key hc false
   have e1:((!decide ((t.insns[i]).op=27))&&(!decide ((t.insns[i]).op=28)))=true:=by simpa using hop
   rw[e1,cdT,wN oM];exact⟨lw,rfl,oM,h2,λx hx=>⟨by have:=(h3 x hx).1;omega,(h3 x hx).2⟩⟩)
  (λn s _=>by rw[f21_l1];dsimp only;rw[ltF,cdF])
  (Int.toNat ((F.length:Int) - 0)+1) 0 [] (Nat.zero_le _) (fuelN _) ⟨Nat.le_refl _,List.Pairwise.nil,λx hx=>by cases hx⟩
 exact⟨L,e,h.2.1,λx hx=>(h.2.2 x hx).2⟩
theorem f21_ok{t:ah}(hs:Sz t)(hm:MayB t=true)(h:Vd t):∃L,f21 t=some L/\Ck t L:=by obtain⟨F,S,e,k⟩:=f37_ok hs hm h;obtain⟨L,e2,hL⟩:=w5 S h.cx k.ok.l;refine⟨L,?_,hL⟩;unfold f21;rw[e,bnS];exact e2
theorem Ck.at{t:ah}{L:List Int}(h:Ck t L){x:Int}(hx:x∈L):0<=x/\x<t.insns.length:=rW (h.c x hx)
theorem p7{L:List Int}(hp:L.Pairwise (·<·)):∀(xs:List aG)(i:Int),(rmI L i xs).length+(cnt L (i+xs.length) - cnt L i)=xs.length
 |[],i=>by simp[rmI]
 |x::xs,i=>by
  have h:=p7 hp xs (i+1);have h1:=mT hp i;have h2:=qG L (a:=i+1) (b:=i+1+xs.length) oM;grind [rmI]
theorem sw{L:List Int}(hp:L.Pairwise (·<·)):∀(xs:List aG)(i:Int)(j:Nat)(hj:j<xs.length),i+j∉L->(rmI L i xs)[j - (cnt L (i+j) - cnt L i)]? =some (mvI L xs[j])
 |x::xs,i,0,_,hn=>by
  grind [rmI]
 |x::xs,i,j+1,hj,hn=>by
  have hj':j<xs.length:=by simpa using hj
  have e:i+((j+1:Nat):Int)=i+1+j:=oM;rw[e] at hn⊢;have ih:=sw hp xs (i+1) j hj' hn;have h1:=mT hp i;have h2:=(iW hp (a:=i+1) (b:=i+1+j) oM).1;have h3:=qG L (a:=i+1) (b:=i+1+j) oM;rw[rmI,List.getElem_cons_succ];grind
theorem yM{L:List Int}(hp:L.Pairwise (·<·)){a:Int}(h:a∈L):L[cnt L a]? =some a:=by obtain⟨m,hm,e⟩:=List.getElem_of_mem h;have h1:=iB (t:=a) hp m hm;have h2:¬m<cnt L a:=oM;grind [List.pairwise_iff_getElem.1,iB]
theorem nW{κ α:Type}[DecidableEq κ]:∀{m:List (κ×α)}{k:κ}(v:α),(∀p∈m,p.1≠k)->bP m k v=m++ [(k,v)]
 |[],k,v,_=>rfl
 |p::m,k,v,h=>by
  rw[bP,if_neg (h p List.mem_cons_self),nW v λq hq=>h q (List.mem_cons_of_mem _ hq)];rfl
theorem f6_l(L:List Int)(a:Int)(hp:L.Pairwise (·<·))(hl:L.length<=100000)(k:List (Int×Bool)->Option Int):∀(n i:Nat),i<=L.length->L.length<n+i->f6_l1 L a k n (i:Int) ((L.take (min i (cnt L a))).map λx=>(x,true))=k ((L.take (cnt L a)).map λx=>(x,true))
 |0,i,_,h=>oM
 |n+1,i,hi,hn=>by
  have hc:=iK L a;rw[f6_l1];by_cases hlt:i<L.length;have e:=iB (t:=a) hp i hlt;rw[tlt hlt,cdT,jg,l8 hlt,bnS,tw1 oM];have ih:=f6_l L a hp hl k n (i+1) oM oM;by_cases hx:L[i]<a;have h1:=e.1 hx;rw[Nat.min_eq_left oM] at ih⊢;rw[dcT hx,cdT,nW _ λp hp'=>?_,<-ih,List.take_succ_eq_append_getElem hlt,List.map_append];rfl;grind [List.mem_take_iff_getElem.1,List.pairwise_iff_getElem.1];grind;grind
theorem f6_eq(L:List Int)(a:Int)(hp:L.Pairwise (·<·))(hl:L.length<=100000):f6 L a=some (IntKind.i64.wrap (a - cnt L a)):=by unfold f6;refine(f6_l L a hp hl _ (Int.toNat ((L.length:Int) - 0)+1) 0 (Nat.zero_le _) (jU _)).trans ?_;have:=iK L a;grind
theorem ry{t:ah}(hb:Bdt t):rmT [] t=t:=by
 have hto:∀a,to [] a=a:=by grind [to,ph]
 have hI:∀(xs:List aG)(i:Int),rmI [] i xs=xs:=λxs=>by
  induction xs with
  |nil=>intro i;rfl
  |cons x xs ih=>simp_all [rmI,mvI]
 have id:∀{α:Type}(f:α->α)(l:List α),(∀x∈l,f x=x)->l.map f=l:=λf l h=>by
  rw[List.map_congr_left h,List.map_id']
 have e1:(t.handlers.map (mvH [])).filter okH=t.handlers:=by rw[id _ _ λx _=>by unfold mvH;rw[hto,hto,hto]];exact List.filter_eq_self.2 λx hx=>dcT (hb.okH x hx)
 have e2:(t.checks.filter λc=> !decide (c.at_∈([]:List Int))).map (mvC [])=t.checks:=by simp_all [id,mvC]
 unfold rmT;rw[hI,e1,e2,id (mvL []) _ λx _=>by unfold mvL;rw[hto,hto],id (mvK []) _ λx _=>by unfold mvK;rw[hto],id (mvS []) _ λx _=>by
  unfold mvS;rw[id (mvA []) _ λa _=>by unfold mvA;rw[hto],hto,ite_self]]
theorem f11_of{t:ah}(hs:Sz t)(hm:MayB t=true){L:List Int}(e:f21 t=some L)(h:Ck t L):f11 t=some (bif MayB (rmT L t) then(rmT L t,L,0) else(t,[],0)):=by
 have hn:=(Bdt.of hs hm).n.2;have hL:L.length<=100000:=by
  have h1:=(iW h.p (a:=0) (b:=t.insns.length) oM).1;have h2:cnt L t.insns.length=L.length:=by exact List.countP_eq_length.2 λx hx=>dcT (h.at hx).2
  have h3:cnt L 0=0:=eH λx hx=>(h.at hx).1;omega
 unfold f11;rw[e,bnS,f22_eq t L hs hm h.p h.c hL,bnS,f23_eq t hs,hm];grind
set_option maxRecDepth 100000
def hxT(l:List aG):ah:=⟨l++ [⟨57,0,0,0,0,0,0⟩],[],[],[],[],[],[],4,[⟨0,0,[],0⟩],[],[]⟩
abbrev hl1:List aG:=[⟨38,1,0,0,0,0,0⟩,⟨27,0,1,0,0,9,0⟩,⟨27,0,1,0,0,9,0⟩,⟨30,0,1,0,0,0,2⟩]
abbrev hl2:List aG:=[⟨38,1,0,0,0,0,0⟩,⟨27,0,1,0,0,9,0⟩]
theorem xL{l:List aG}(h0:∀x∈(hxT l).insns,0<=x.op/\x.op<=255)(h1:MayB (hxT l)=true)(h2:∀x∈(hxT l).insns,I64 x.n){L:List Int}(hi:vz (hxT l)=some L){z:ah×List Int×Int}(hz:(bif MayB (rmT L (hxT l)) then(rmT L (hxT l),L,(0:Int)) else(hxT l,[],0))=z):f11 (hxT l)=some z:=by have hs:Sz (hxT l):=⟨h0,show 0<9223372036854775808 by decide,show∀o∈([]:List Obj),o.set_.length<9223372036854775808 by decide,show∀l∈([]:List (List Int)),l.length<9223372036854775808 by decide,show 0<9223372036854775808 by decide,show 0<9223372036854775808 by decide⟩;have hv:=Vd.of hs h1 (show∀o∈([]:List Obj), -9223372036854775808<=o.lo/\o.hi<=9223372036854775807 by decide) h2;obtain⟨L',e,hL⟩:=f21_ok hs h1 hv;have:=vy hs h1 hv hi;rw[this,aK] at e;subst e;rw[f11_of hs h1 this hL,hz]
theorem h1_eq:f11 (hxT hl1)=some (rmT [2] (hxT hl1),[2],0):=xL dC (by decide+kernel) dC (L:=[2]) (by decide+kernel) (by
 have:MayB (rmT [2] (hxT hl1))=true:=by decide+kernel
 rw[this];rfl)
theorem h2_eq:f11 (hxT hl2)=some (hxT hl2,[],0):=xL dC (by decide+kernel) dC (L:=[]) (by decide+kernel) (by
 have:MayB (rmT [] (hxT hl2))=true:=by decide+kernel
 rw[this,cdT,ry (Bdt.of ⟨by decide,by decide,by decide,by decide,by decide,by decide⟩ (by decide+kernel))])
theorem h0_eq:f11 gT=some (gT,[],2):=by
 have hs:Sz gT:=⟨by decide,by decide,by decide,by decide,by decide,by decide⟩;have hm:f23 gT=some false:=(f23_eq _ hs).trans (congrArg some (by decide+kernel));have e:f37 gT=some ([],[],2):=by unfold f37;rw[hm,bnS,Bool.not_false,cdT]
 have e2:f21 gT=some []:=by unfold f21;rw[e,bnS];rfl
 have e3:f22 gT []=some (gT,2):=by unfold f22;rw[hm,bnS,Bool.not_false,cdT]
 unfold f11;rw[e2,bnS,e3,bnS,hm];rfl
theorem f5_true:f5=some true:=by
 have e8:f8 [2] [2]=some true:=by decide+kernel
 have e13:f13 (rmT [2] (hxT hl1)) (hxT [⟨38,1,0,0,0,0,0⟩,⟨27,0,1,0,0,9,0⟩,⟨30,0,1,0,0,0,2⟩])=some true:=by decide+kernel
 have e6:f6 [3,1,5,1] 5=some 3:=by decide+kernel
 have e7:f6 [] (-7)=some (-7):=by decide+kernel
 unfold f5;show Option.bind (f11 (hxT hl1)) _=_;rw[h1_eq,bnS];show Option.bind (f11 (hxT hl2)) _=_;rw[h2_eq,bnS,h0_eq,bnS,aw];dsimp only;have e12:f12 [⟨38,1,0,0,0,0,0⟩,⟨27,0,1,0,0,9,0⟩,⟨30,0,1,0,0,0,2⟩]=some (hxT [⟨38,1,0,0,0,0,0⟩,⟨27,0,1,0,0,9,0⟩,⟨30,0,1,0,0,0,2⟩]):=rfl;rw[e8,dcT rfl,cdT,bnS,cdT,e12,bnS,e13,bnS];simp[e6,e7,hxT]
theorem f9_l1_ok(t:ah)(k:Int->Option Bool):∀(n i:Nat)(s:Int),i<=100->100<n+i->∃r,f9_l1 t k n s (i:Int)=k r
 |0,i,_,_,h=>oM
 |n+1,i,s,hi,h=>by
  rw[f9_l1];by_cases hh:(i:Int)<t.objs.length/\(i:Int)<100;rw[dcT hh.1,dcT hh.2,Bool.and_self,cdT,aE (show i<t.objs.length by omega),bnS,wN oM];exact f9_l1_ok t k n (i+1) _ oM oM;have:(decide ((i:Int)<t.objs.length)&&decide ((i:Int)<100))=false:=by rw[<-Bool.not_eq_true,Bool.and_eq_true,decide_eq_true_eq,decide_eq_true_eq];exact hh
  rw[this,cdF];exact⟨s,rfl⟩
theorem f9_ok(t:ah):∃b,f9 t=some b:=by obtain⟨N,hN⟩:∃N,N=9223372036854775808:=⟨_,rfl⟩;unfold f9;rw[aw,<-hN];obtain⟨r,h⟩:=f9_l1_ok t (λn90=>some (((((((((((decide (n90>200))||(decide ((List.length t.insns:Int)>60)))||(decide ((List.length t.handlers:Int)>20)))||(decide ((List.length t.loops:Int)>60)))||(decide ((List.length t.selects:Int)>20)))||(decide ((List.length t.lists:Int)>40)))||(decide ((List.length t.objs:Int)>30)))||(decide ((List.length t.inits:Int)>60)))||(decide ((List.length t.tasks:Int)>20)))||(decide ((List.length t.prots:Int)>10)))||(decide ((List.length t.checks:Int)>60)))) N 0 0 oM oM;exact⟨_,h⟩
theorem f4_l1_ok{t:ah}{L:List Int}(h:Ck t L)(hn:t.insns.length<=65536)(k:Int->Option Bool)(N:Nat)(hN:N=9223372036854775808):f4_l1 t (rmT L t,L,0) k N 0 0=k (L.length:Int):=by
 have hp:=h.p;have c0:cnt L 0=0:=eH λx hx=>(h.at hx).1;have c1:cnt L t.insns.length=L.length:=by unfold Tw.cnt;exact List.countP_eq_length.2 λx hx=>dcT (h.at hx).2
 have hL:L.length<=65536:=by have h1:=(iW h.p (a:=0) (b:=t.insns.length) oM).1;omega
 obtain⟨s,e,hs⟩:=vj t.insns (λn i s=>f4_l1 t (rmT L t,L,0) k n s i) (λs=>k s) (λi s=>s=(cnt L i:Int))
  (λn i hi s hs=>by
   subst hs;have hc:=iK L i;have hg:=(iW hp (a:=0) (b:=i) oM).1;have hs:=mT hp i;refine⟨(cnt L ((i+1:Nat):Int):Int),?_,rfl⟩;rw[show((i+1:Nat):Int)=(i:Int)+1 from by push_cast;rfl];rw[f4_l1,ltT hi,cdT];simp only[aw];rw[aE hi,bnS];by_cases hm:(i:Int)∈L;have hat:=yM hp hm;obtain⟨hlt,hat⟩:=giS.1 hat
   obtain⟨x,hx,hop⟩:=qH (h.c _ hm);rw[aE hi,aK] at hx;subst hx;have e1:((!decide ((t.insns[i]).op=27))&&(!decide ((t.insns[i]).op=28)))=false:=by rcases hop with h|h<;>simp[h]
   rw[if_pos hm] at hs;rw[ltT hlt,cdT,aE hlt,hat];simp only[bnS,decide_true,cdT];rw[e1,cdF,w64 oM oM,w64 oM oM,hs];push_cast;rfl;rw[if_neg hm] at hs;have e1:(bif decide (((cnt L i:Nat):Int)<(L.length:Int)) then Option.bind (idx L ((cnt L i:Nat):Int)) λx126=>some (decide (x126=(i:Int))) else some false)=some false:=by by_cases hlt:cnt L i<L.length;rw[ltT hlt,cdT,aE hlt,bnS,dcF (λe:L[cnt L i]=(i:Int)=>hm (by rw[<-e];exact List.getElem_mem hlt))];rw[dcF oM,cdF]
   have hg2:=sw hp t.insns 0 i hi (by rw[Int.zero_add];exact hm);rw[Int.zero_add,c0] at hg2;have e2:idx (rmI L 0 t.insns) (IntKind.i64.wrap ((i:Int) - cnt L i))=some (mvI L t.insns[i]):=by rw[w64 oM oM,show(i:Int) - cnt L i=((i - (cnt L i - 0):Nat):Int) by omega];obtain⟨h1,h2⟩:=giS.1 hg2;rw[aE h1,h2]
   rw[e1,bnS,cdF,show(rmT L t).insns=rmI L 0 t.insns from rfl,e2,bnS,f6_eq L i hp oM,show(mvI L t.insns[i]).op=(t.insns[i]).op from rfl,show(mvI L t.insns[i]).d=(t.insns[i]).d from rfl,show(mvI L t.insns[i]).a=(t.insns[i]).a from rfl,show(mvI L t.insns[i]).b=(t.insns[i]).b from rfl,show(mvI L t.insns[i]).n=(t.insns[i]).n from rfl,show(mvI L t.insns[i]).m=(t.insns[i]).m from rfl];simp only[decide_true,Bool.and_self,Bool.not_true,cdF,bnS];rw[w64 oM oM,hs];rfl)
  (λn s hs=>by subst hs;rw[f4_l1,ltF,cdF,c1]) N 0 0 (Nat.zero_le _) oM (by rw[show((0:Nat):Int)=0 from rfl,c0];rfl)
 subst hs;rw[c1] at e;exact e
theorem SzA.rm{t:ah}(h:SzA t)(L:List Int):SzA (rmT L t):=⟨λx hx a ha=>by
 obtain⟨y,hy,rfl⟩:=List.mem_map.1 hx;obtain⟨b,hb,rfl⟩:=List.mem_map.1 ha;exact h.alts y hy b hb⟩
theorem f4_law(t:ah)(hs:Sz t)(ha:SzA t)(h6:∀o∈t.objs, -9223372036854775808<=o.lo/\o.hi<=9223372036854775807)(hn:∀x∈t.insns,I64 x.n):f4 t=some true:=by
 obtain⟨b,hb⟩:=f9_ok t;obtain⟨N,hN⟩:∃N,N=9223372036854775808:=⟨_,rfl⟩;unfold f4;rw[<-hN];rw[hb,bnS];cases b with
 |true=>rw[cdT,bnS,cdT,f5_true];rfl
 |false=>
  rw[cdF,f10_eq t hs ha,bnS,bnS];cases hm:MayB t with
  |false=>rw[Bool.not_false,cdT,f5_true];rfl
  |true=>
   rw[Bool.not_true,cdF];have hbd:=Bdt.of hs hm;obtain⟨L,e,hL⟩:=f21_ok hs hm (Vd.of hs hm h6 hn);have e11:=f11_of hs hm e hL;have:∃L,f11 t=some (rmT L t,L,0)/\Ck t L/\MayB (rmT L t)=true:=by
    cases hr:MayB (rmT L t) with
    |true=>exact⟨L,by rw[e11,hr];rfl,hL,hr⟩
    |false=>exact⟨[],by rw[e11,hr,ry hbd];rfl,⟨List.Pairwise.nil,λx hx=>by cases hx⟩,by rw[ry hbd];exact hm⟩
   obtain⟨L,e,hL,hr⟩:=this;have hz:=p7 hL.p t.insns 0;rw[Int.zero_add,eH λx hx=>(hL.at hx).1,show cnt L t.insns.length=L.length from List.countP_eq_length.2 λx hx=>dcT (hL.at hx).2] at hz;have hni:=hbd.n.2;have hlen:IntKind.i64.wrap (((rmT L t).insns.length:Int)+(L.length:Int))=(t.insns.length:Int):=by show IntKind.i64.wrap (((rmI L 0 t.insns).length:Int)+(L.length:Int))=_;rw[w64 oM oM];omega
   rw[e,bnS];dsimp only;rw[f10_eq _ (hs.rm L) (ha.rm L),hr,hlen];simp only[decide_true,Bool.not_true,cdF,bnS,Bool.or_self,aw];refine(f4_l1_ok hL hni _ N hN).trans ?_;rw[dcT rfl,cdT,f5_true];rfl
end Go.Proofs.YtlkhnkpflmpjhaaGreatDoor
