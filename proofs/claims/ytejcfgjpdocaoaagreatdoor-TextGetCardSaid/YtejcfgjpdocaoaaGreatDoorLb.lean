/- Part of the proof. -/
import Derived.Test.YtejcfgjpdocaoaaGreatDoorO
import Derived.Test.YtejcfgjpdocaoaaGreatDoorLa
set_option linter.all false
set_option maxRecDepth 10000
namespace Go.Proofs.YtejcfgjpdocaoaaGreatDoor
open Go Go.Sk
theorem f109_eq(t:ao)(a m:Int)(h0:0<=a)(h1:0<=m)(h2:a<=65536)(h3:m<=65536)(hl:t.insns.length<=65536):f109 t a m=some (decide ((IntKind.i64.wrap (a+m))<=(t.insns.length:Int))&&(br t.insns a (IntKind.i64.wrap (a+m))).all (λy=>decide (y.op=29))):=by
 unfold f109;rw[w64 oM oM];by_cases h:a+m<=(t.insns.length:Int);rw[dcT h,dcF (show¬a+m>(t.insns.length:Int) by omega),cdF,aR];have hL:(t.insns.take (a+m).toNat).length=(a+m).toNat:=by grind
 have:=yt (t.insns.take (a+m).toNat) (f109_l1 t a m λ_=>some true) (some true) (λy=>decide (y.op=29)) oM (λn i hi=>by
  rw[f109_l1,w64 (x:=a+m) oM oM,dcT (show(i:Int)<a+m by omega),cdT,bj oM,bnS,w1 (n:=t.insns.length) oM oM,List.getElem_take];generalize t.insns[i]=y;cases decide (y.op=29)<;>rfl) (λn=>by
  rw[f109_l1,w64 (x:=a+m) oM oM,dcF (show¬(((t.insns.take (a+m).toNat).length:Nat):Int)<a+m by omega),cdF]) 9223372036854775808 a.toNat a oM oM oM
 grind [br,List.drop_take];grind
theorem f110_eq(t:ao)(a n:Int)(hl:∀x∈t.tasks,x.entries.length<9223372036854775808):∃e,f110 t a n=some (e,(ma t a n).2)/\((ma t a n).2=true->(∃x∈t.tasks,e∈x.entries)/\IntKind.i64.wrap (IntKind.i64.wrap ((List.length e.ins:Int)+(List.length e.outs:Int))+1)=(ma t a n).1):=by
 unfold f110 ma;by_cases h:0<=a/\a<t.tasks.length;obtain⟨y,hy,hym⟩:=bJ h;rw[hy,dcF (show¬a<0 by omega),dcF (show¬a>=(t.tasks.length:Int) by omega)];dsimp only[bnS];by_cases h2:0<=n/\n<y.entries.length;obtain⟨e,he,hem⟩:=bJ h2;grind;rw[da h2];by_cases h3:n<0;rw[dcT h3];exact⟨_,rfl,λh=>by cases h⟩;simp_all;rw[da h];have:(decide (a<0)||decide (a>=(t.tasks.length:Int)))=true:=by grind
 rw[this];exact⟨_,rfl,λh=>by cases h⟩
theorem f111_eq(t:ao)(p n:Int):f111 t p n=some (r8 t p n):=by unfold f111 r8;by_cases h:0<=p/\p<t.prots.length;obtain⟨y,hy,_⟩:=bJ h;grind;grind [da]
theorem flds5:la 5=[(68,114),(65,114),(66,108),(78,111),(77,115)]:=by decide+kernel
theorem flds6:la 6=[(68,114),(65,114),(66,108),(78,111),(77,115)]:=by decide+kernel
theorem xZ:la 43=[(68,114),(78,101),(77,113)]:=by decide+kernel
theorem xY:la 52=[(65,112),(66,101),(78,98),(84,115)]:=by decide+kernel
theorem tQ{x:aB}(h:iE x=true)(ho:x.op=5\/x.op=6):0<=x.b:=by grind [iE,la,flds5,flds6,fl,rng,f189]
theorem xN{x:aB}(h:iE x=true)(ho:x.op=43): -1<=x.m:=by grind [iE,xZ,fl,rng,f189]
theorem xM{x:aB}(h:iE x=true)(ho:x.op=52):0<=x.to:=by grind [iE,xY,fl,rng,f189]
theorem sf{t:ao}(hT:ef t=true){x:aJ}(hx:x∈t.tasks){e:az}(he:e∈x.entries):(e.ins.length:Int)<=8/\(e.outs.length:Int)<=8:=by grind [ef,fW,eF,dZ]
theorem qa{t:ao}(hT:ef t=true):∀x∈t.tasks,x.entries.length<9223372036854775808:=by grind [ef,fW]
theorem f44_eq(t:ao)(x:aB)(hT:ef t=true)(hl:t.insns.length<=65536):f44 t x=some (jH t x):=by unfold f44 jH;rw[f108_eq,bnS];cases hm:iE x;rfl;rw[Bool.not_true,cdF,Bool.true_and];simp only[aR,f111_eq];have hat:f51 t x.to=at1 t x.to:=rfl;rw[hat,f104_eq t x.n x.m 1 oM];cases decide (x.op=3);cases decide (x.op=4);cases h5:decide (x.op=5);cases h6:decide (x.op=6);cases decide (x.op=29);cases decide (x.op=30);cases decide (x.op=31);cases h32:decide (x.op=32);cases decide (x.op=33);cases decide (x.op=44);cases decide (x.op=45);cases decide (x.op=46);cases decide (x.op=56);cases decide (x.op=50);obtain⟨e,he,hn⟩:=f110_eq t x.a x.b (qa hT);rw[he];cases decide (x.op=49);cases h52:decide (x.op=52);cases decide (x.op=53);cases decide (x.op=55);cases decide (x.op=54);cases h43:decide (x.op=43);rfl;have:=xN hm (of_decide_eq_true h43);have e:decide (x.m= -1)=decide (x.m<0):=decide_eq_decide.2 oM;rw[e];cases decide (x.m<0)<;>rfl;rfl;rfl;rfl;grind [xM,at1];cases hs:(ma t x.a x.b).2;rfl;obtain⟨⟨y,hy,hem⟩,hw⟩:=hn hs;have:=sf hT hy hem;grind [f104_eq,w64];rfl;rfl;rfl;rfl;rfl;rfl;obtain⟨a1,a2,a3,a4⟩:=tR hm (of_decide_eq_true h32);rw[f109_eq t x.to x.m a1 oM oM a4 hl];rfl;rfl;rfl;rfl;grind [f104_eq,tQ];grind [f104_eq,tQ];rfl;rfl
theorem pR:∀(N:Nat)(L:List Nat),L.Nodup->(∀x∈L,x<N)->L.length<=N
 |0,[],_,_=>Nat.le_refl _
 |0,x::L,_,h=>absurd (h x List.mem_cons_self) (Nat.not_lt_zero _)
 |N+1,L,hn,h=>by
  by_cases hm:N∈L;have h1:=List.length_erase_of_mem hm;have h2:=pR N (L.erase N) (hn.erase N) (λx hx=>by
   have h3:=h x (List.mem_of_mem_erase hx);have h4:x≠N:=λe=>by subst e;exact hn.not_mem_erase hx
   omega)
  omega;have:=pR N L hn (λx hx=>by
   have h3:=h x hx;have h4:x≠N:=λe=>hm (e▸hx);omega)
  omega
def szS(L:List Obj):Nat:=(L.map λo=>o.size.toNat).sum
theorem qw:∀(L:List Obj)(a:Int),(∀o∈L,1<=o.size/\o.size<=16384)->0<=a->a+16384*(L.length:Int)<=9223372036854775807->pI a L=a+(szS L:Int)
 |[],a,_,_,_=>by simp[pI,szS]
 |o::L,a,h,h0,h1=>by
  have ho:=h o List.mem_cons_self;have hl:((o::L).length:Int)=(L.length:Int)+1:=sM;have ih:=qw L (a+o.size) (λx hx=>h x (List.mem_cons_of_mem _ hx)) oM oM;grind [pI,w64,szS]
theorem iR{L:List Obj}{i:Nat}(h:i<L.length):szS (L.take (i+1))=szS (L.take i)+L[i].size.toNat:=by grind [szS,List.take_succ_eq_append_getElem]
theorem kL{L:List Obj}:∀{i j:Nat},i<=j->szS (L.take i)<=szS (L.take j):=by
 intro i j h;induction h with
 |refl=>exact Nat.le_refl _
 |step h ih=>grind [iR,List.take_of_length_le]
def pos(os:List Obj)(x:bt):Nat:=szS (os.take x.o.toNat)+x.slot.toNat
theorem iD{os:List Obj}(ho:∀o∈os,1<=o.size/\o.size<=16384){x:bt}(h:fg os x=true):0<=x.o/\x.o.toNat<os.length/\0<=x.slot/\∀h:x.o.toNat<os.length,x.slot.toNat<os[x.o.toNat].size.toNat:=by unfold fg at h;rw[Bool.and_eq_true] at h;obtain⟨y,hy,h1,h2⟩:=kr h.1;have hb:=oL hy;grind [w64,bj]
theorem xw{os:List Obj}(ho:∀o∈os,1<=o.size/\o.size<=16384){x:bt}(h:fg os x=true):pos os x<szS os:=by obtain⟨_,h1,_,h2⟩:=iD ho h;have h3:=h2 h1;have h4:=iR h1;have h5:=kL (L:=os) (i:=x.o.toNat+1) (j:=os.length) oM;grind [pos]
theorem uY{os:List Obj}(ho:∀o∈os,1<=o.size/\o.size<=16384){x y:bt}(hx:fg os x=true)(hy:fg os y=true)(h:pos os x=pos os y):x.o=y.o/\x.slot=y.slot:=by
 obtain⟨a0,a1,a2,a3⟩:=iD ho hx;obtain⟨b0,b1,b2,b3⟩:=iD ho hy;have a4:=a3 a1;have b4:=b3 b1;have a5:=iR a1;have b5:=iR b1;unfold pos at h;rcases Nat.lt_trichotomy x.o.toNat y.o.toNat with hlt|heq|hgt
 have:=kL (L:=os) (i:=x.o.toNat+1) (j:=y.o.toNat) hlt;omega;rw[heq] at h;omega;have:=kL (L:=os) (i:=y.o.toNat+1) (j:=x.o.toNat) hgt;omega
theorem j8{os:List Obj}(ho:∀o∈os,1<=o.size/\o.size<=16384):∀(r P:List bt),gF os P r=true->(∀x∈P,fg os x=true)->(P.map (pos os)).Nodup->((P++r).map (pos os)).Nodup/\∀x∈P++r,fg os x=true
 |[],P,_,h1,h2=>by rw[List.append_nil];exact⟨h2,h1⟩
 |x::r,P,h,h1,h2=>by
  rw[gF] at h;simp only[Bool.and_eq_true] at h;obtain⟨⟨hx,hP⟩,hr⟩:=h;have ih:=j8 ho r (P++ [x]) hr (λy hy=>by
   rcases List.mem_append.1 hy with hy|hy
   exact h1 y hy;rw[List.mem_singleton] at hy;subst hy;exact hx) (by
   rw[List.map_append,List.nodup_append];refine⟨h2,sM,λa ha b hb=>?_⟩;simp only[List.map_cons,List.map_nil,List.mem_singleton] at hb;subst hb;intro e;obtain⟨y,hy,rfl⟩:=List.mem_map.1 ha;have hi:=uY ho (h1 y hy) hx e;have:=List.all_eq_true.1 hP y hy;unfold neI at this;rw[dcT hi.1,dcT hi.2] at this;cases this)
  rw[List.append_assoc,List.singleton_append] at ih;exact ih
theorem mr{os:List Obj}(h:os.all (ff os)=true):∀o∈os,1<=o.size/\o.size<=16384:=by grind [ff]
theorem f38_eq(t:ao)(hl:t.inits.length<9223372036854775808)(hs:∀o∈t.objs,o.set_.length<9223372036854775808):f38 t=some (j7 t):=by
 unfold f38 j7;cases h1:(decide ((t.objs.length:Int)>4096)||decide (t.excs<4))||decide (t.excs>64);have hol:(t.objs.length:Int)<=4096:=by simp_all
 rw[Bool.false_or,Bool.not_false,Bool.true_and];have hi:gF t.objs [] t.inits=eE t.objs [] t.inits:=by grind [mw]
 have core:f38_l1 t (λn111=>aq (λ(_:Unit)=>some (decide (n111<=65536))) λk122=>f38_l2 t k122 9223372036854775808 0) 9223372036854775808 0 0=some (t.objs.all (ff t.objs)&&(eE t.objs [] t.inits&&decide (pI 0 t.objs<=65536))):=by rw[f38_l1_eq t _ oM hs _ 0 0 0 rfl (Nat.zero_le _) oM,List.drop_zero];cases t.objs.all (ff t.objs);rfl;rw[cdT,aR,f38_l2_eq t _ hl hs _ 0 0 rfl (Nat.zero_le _) oM,List.drop_zero,List.take_zero,hi];grind
 by_cases h2:(t.inits.length:Int)>65536;rw[dcT h2,cdT];congr 1;cases ha:t.objs.all (ff t.objs);rfl;have ho:=mr ha;rw[Bool.true_and];cases hb:eE t.objs [] t.inits;rfl;rw[Bool.true_and];have hn:=j8 ho t.inits [] (by rw[hi];exact hb) (λx hx=>by cases hx) List.nodup_nil;have hp:=pR (szS t.objs) (t.inits.map (pos t.objs)) hn.1 (λx hx=>by
  obtain⟨y,hy,rfl⟩:=List.mem_map.1 hx;exact xw ho (hn.2 y hy))
 grind [qw];grind [aR];rw[Bool.true_or];rfl
theorem f11_l1_eq(t:ao)(r:Option Bool)(hT:ef t=true)(hl:t.insns.length<=65536)(n:Nat)(hn:n=9223372036854775808):f11_l1 t (λ_=>r) n 0=bif t.insns.all (jH t) then r else some false:=by refine ic t.insns (f11_l1 t λ_=>r) r (jH t) n hn oM (λm i hi=>?_) (λm=>by rw[f11_l1,gq,cdF]);grind [f11_l1,g',bj,w1,f44_eq,jH]
theorem f11_eq(t:ao)(h:Sz t)(ha:SzA t):f11 t=some (pp t):=by
 unfold f11 pp;cases h1:decide ((t.insns.length:Int)<1)||decide ((t.insns.length:Int)>65536);have hol:(1:Int)<=t.insns.length/\(t.insns.length:Int)<=65536:=by simp_all
 rw[cdF,f38_eq t h.inits h.sets,f39_eq,f40_eq t h.checks,f42_eq,f43_eq];cases hO:j7 t;simp;cases hT:ef t;simp;have ho:∀o∈t.objs,1<=o.size/\o.size<=16384:=by unfold j7 at hO;simp only[Bool.and_eq_true] at hO;exact mr hO.2.1
 rw[f41_eq t ha (λo y hy=>by have:=ho y (nl hy);omega)];obtain⟨x,hx,_⟩:=bJ (L:=t.insns) (i:=(t.insns.length:Int) - 1) oM;rw[aR,w64 oM oM,f11_l1_eq t _ hT oM _ rfl];unfold qN;rw[hx];dsimp only[bnS];have e:nh x=(((decide (x.op=29)||decide (x.op=33))||decide (x.op=34))||decide (x.op=57)):=by grind [nh]
 rw[e];generalize(((decide (x.op=29)||decide (x.op=33))||decide (x.op=34))||decide (x.op=57))=b0;generalize t.insns.all (jH t)=b9;cases iq t;simp;cases jL t (-1) t.checks;simp;grind [iy,kZ,pX];rfl
open Go Go.Sk Go.Tg
theorem sz_ok{F:Nat}{t:ao}(h:(cC F).ok t):Sz t/\SzA t:=by
 obtain⟨⟨h1,h2,h3,h4,h5⟩,h6,h7,h8,h9,h10,h11⟩:=h;exact⟨⟨λx hx=>(h1.2 x hx).1,h7.1,λo ho=>(h6.2 o ho).2.2.2.2.1,λl hl=>(h5.2 l hl).1,h10.1,h11.1⟩,⟨λx hx a ha=>by
  obtain⟨_,g1,_,g2,_⟩:=((h4.2 x hx).1.2 a ha);have e1:i64 a.entry:=g1;have e2:i64 a.time:=g2;unfold i64 at e1 e2;omega⟩⟩
theorem nB{r:Bs}(h:Byt r):jj r=true:=by unfold jj;rw[List.all_eq_true];intro x hx;have:=h x hx;rw[dcT this.1,dcT this.2];rfl
theorem wk{a b:Bs}(ha:Byt a)(hb:Byt b):((jk a).toList==(jk b).toList)=decide (a=b):=by
 by_cases h:a=b;subst h;simp;rw[dcF h];refine beq_eq_false_iff_ne.2 λe=>h ?_;have hx:∀L:Bs,(jk L).toList=L.map λn=>UInt8.ofNat n.toNat:=λL=>by
  rw[ByteArray.toList_eq];simp[jk]
 rw[hx,hx] at e;have key:∀(a b:Bs),Byt a->Byt b->(a.map λn=>UInt8.ofNat n.toNat)=b.map (λn=>UInt8.ofNat n.toNat)->a=b:=by
  intro a;induction a with
  |nil=>
   intro b _ _ e;cases b with
   |nil=>rfl
   |cons y b=>cases e
  |cons x a ih=>
   intro b ha hb e;cases b with
   |nil=>cases e
   |cons y b=>simp only[List.map_cons,List.cons.injEq] at e;have h1:=ha x List.mem_cons_self;have h2:=hb y List.mem_cons_self;have h3:=congrArg UInt8.toNat e.1;simp only[UInt8.toNat_ofNat'] at h3;have:x=y:=oM;rw[this,ih b (λz hz=>ha z (List.mem_cons_of_mem _ hz)) (λz hz=>hb z (List.mem_cons_of_mem _ hz)) e.2]
 exact key a b ha hb e
theorem f19_eq{F:Nat}(hF:F=9223372036854775808){t:ao}(h:(cC F).ok t)(hl:((cC F).enc t).length<=900000000):f19 t t=some true:=by have hb:Byt (e8 958023++(cC F).enc t):=Byt.app.2 ⟨lh _,(cC F).f _ h⟩;unfold f19;rw[f58_eq hF h hl,bnS,eb _ (nB hb),bnS,eb _ (nB hb)];simp
def Pv(F:Nat)(b:Bs):ao×Int:=
 match d8 b with
 |none=>(T0,230)
 |some u=>match(cC F).dec u.2 with
  |some (t,[])=>if u.1=958023/\pp t=true then(t,0) else(T0,230)
  |_=>(T0,230)
theorem f17_eq{F:Nat}(hF:F=9223372036854775808){b:Bs}(hb:Byt b)(hM:b.length<=30000):f17 b=some (Pv F b):=by
 unfold f17 Pv;rw[f53_eq hb,bnS,cq];cases hd:d8 b with
 |none=>rfl
 |some u=>
  obtain⟨g1,g2,g3⟩:=d5 hb hd;dsimp only;obtain⟨b',bad',t,e,hs,hn⟩:=f54_eq hF.symm g1 oM;rw[Bool.not_false,cdT,e,bnS];dsimp only;cases hq:(cC F).dec u.2 with
  |none=>obtain rfl:=hn hq;rfl
  |some v=>
   obtain⟨y,r⟩:=v;obtain⟨rfl,rfl,rfl⟩:=hs y r hq;cases b' with
   |cons x l=>have:decide ((List.length (x::l):Int)>0)=true:=dcT (by simp only[List.length_cons];omega);rw[this,Bool.or_true,cdT];rfl
   |nil=>
    have hok:=((cC F).a g1 hq).2;have:decide ((List.length ([]:Bs):Int)>0)=false:=rfl;rw[this,Bool.or_false,Bool.false_or];by_cases hu:u.1=958023;rw[dcT hu,Bool.not_true,cdF];have hf:f10 (⟨t.insns,t.handlers,t.loops,t.selects,t.lists,t.objs,t.inits,t.excs,t.tasks,t.prots,t.checks⟩:ao)=some (pp t):=f10_eq t (sz_ok hok).1;rw[hf,bnS,bnS];cases hm:pp t with
    |true=>dsimp only;rw[Bool.not_true,cdF,if_pos ⟨hu,hm⟩]
    |false=>dsimp only;rw[Bool.not_false,cdT,if_neg λh=>by rw[hm] at h;cases h.2]
    rw[dcF hu,Bool.not_false,cdT];dsimp only;rw[if_neg λh=>hu h.1];rfl
theorem f18_pv{F:Nat}(hF:F=9223372036854775808){b:Bs}(hb:Byt b)(hM:b.length<=30000):f18 b=some (Pv F b):=by
 obtain⟨b',bad',t,e,g⟩:=f18_eq hF.symm hb hM;rw[e];unfold wR Pv;cases hd:d8 b with
 |none=>rw[g.n rfl (by rw[dc2,hd];rfl)];rfl
 |some u=>
  obtain⟨g1,g2,g3⟩:=d5 hb hd;dsimp only;have hd2:dc2 d8 (cC F).dec' (λ_ t=>t) b=(cC F).dec' u.2:=by rw[dc2,hd,bnS];cases (cC F).dec' u.2<;>rfl
  cases hq:(cC F).dec' u.2 with
  |none=>
   rw[g.n rfl (by rw[hd2,hq])];have:(cC F).dec u.2=none:=by
    cases h:(cC F).dec u.2 with
    |none=>rfl
    |some v=>have:=(cC F).c (show(cC F).dec u.2=some (v.1,v.2) from h);rw[hq] at this;cases this
   rw[this];rfl
  |some v=>
   obtain⟨y,r⟩:=v;obtain⟨rfl,rfl,rfl⟩:=g.s rfl y r (by rw[hd2,hq]);obtain⟨hok,hr⟩:=(cC F).d g1 hq;have hlen:=(cC F).g g1 hq;have hbt:Byt (e8 958023++(cC F).enc t):=Byt.app.2 ⟨lh _,(cC F).f _ hok⟩;rw[cdF,f58_eq hF hok oM,bnS,eb _ (nB hbt),eb _ (nB hb),wk hbt hb];have hbu:=(oX hb hd).1;by_cases hE:e8 958023++(cC F).enc t=b;have h1:d8 b=some (958023,(cC F).enc t):=by rw[<-hE];exact wd _ ⟨oM,oM⟩
   rw[hd,aH] at h1;have h2:=(cC F).b [] hok;rw[List.append_nil] at h2;rw[dcT hE,Bool.not_true,cdF,f11_eq t (sz_ok hok).1 (sz_ok hok).2,bnS];have hu1:u.1=958023:=congrArg Prod.fst h1;have hu2:u.2=(cC F).enc t:=congrArg Prod.snd h1;rw[hu2,h2];dsimp only;by_cases hm:pp t=true;rw[hm,if_pos ⟨hu1,rfl⟩];rfl;rw[if_neg λh=>hm h.2,Bool.eq_false_iff.2 hm];rfl;rw[dcF hE,Bool.not_false,cdT];cases hp:(cC F).dec u.2 with
   |none=>rfl
   |some v=>
    obtain⟨y,r⟩:=v;cases r with
    |cons x l=>rfl
    |nil=>dsimp only;rw[if_neg];rintro⟨h1,_⟩;refine hE ?_;have h3:=(cC F).c hp;rw[hq,aH,Prod.mk.injEq] at h3;obtain⟨rfl,rfl⟩:=h3;obtain⟨h4,_⟩:=(cC F).a g1 hp;rw[hbu,h1,h4,List.append_nil]
theorem ur(F:Nat):(cC F).ok T0/\((cC F).enc T0).length<=900000000:=by constructor;simp[cC,mB,ml,pr,liC,Cod.two,Cod.list,bu,i64];simp[cC,mB,ml,pr,liC,Cod.two,Cod.list,bu,fH]
theorem Pv_ok{F:Nat}{b:Bs}(hb:Byt b)(hM:b.length<=30000):(cC F).ok (Pv F b).1/\((cC F).enc (Pv F b).1).length<=900000000:=by
 unfold Pv;cases hd:d8 b with
 |none=>exact ur F
 |some u=>obtain⟨g1,g2,g3⟩:=d5 hb hd;dsimp only;split;rename_i t hq;split;obtain⟨h1,h2⟩:=(cC F).a g1 hq;refine⟨h2,?_⟩;show((cC F).enc t).length<=_;have:=congrArg List.length h1;rw[List.length_append] at this;omega;exact ur F;exact ur F
theorem vF(b:Bs)(hb:Byt b):f5 b=some true:=by unfold f5;by_cases hM:b.length<=30000;obtain⟨F,hF⟩:∃F:Nat,F=9223372036854775808:=⟨_,rfl⟩;obtain⟨h1,h2⟩:=Pv_ok (F:=F) hb hM;rw[dcF oM,cdF,eb _ (xz dC (by simp only[List.length_nil];omega)),List.nil_append,f17_eq hF hb hM,bnS,f18_pv hF hb hM,bnS,f19_eq hF h1 h2,bnS,dcT rfl,Bool.and_self,cdT];rfl;rw[dcT oM,cdT];rfl
end Go.Proofs.YtejcfgjpdocaoaaGreatDoor
