/-
  Windows with reserved places, results that hang on objects, calls that may panic, deferred calls.
-/
import Derived.WideLaws
import Derived.RecoverIn
import Derived.Maps.RangeRun
import Derived.Laws.IdiomStrings
import Derived.LaidMore
import Derived.OpenShut
import Derived.Stop.Joined
import Derived.ChangeArms
import Derived.ChangeSame
import Derived.Test.YtoigciljcejeaaaGreatDoorSb
set_option linter.all false
namespace Go.Sk
open Go.RowKit (Below)
def AO.lr:AO->Bool| .dead=>false|_=>true
theorem pu{o:AO}(h:o.lr=true):o.live=true\/o= .rsv:=by cases o<;>simp_all [AO.lr,AO.live]
def mH:List AO->Bool
 |[]=>true
 |o::l=>o.lr&&mH l
theorem mG:∀{l:List AO},mH l=true->∀{i:Nat}{o:AO},l[i]? =some o->o.live=true\/o= .rsv
 |[],_,i,o,h=>by simp at h
 |p::l,hl,i,o,h=>by
  simp only[mH,Bool.and_eq_true] at hl;cases i with
  |zero=>simp only[List.getElem?_cons_zero,ao] at h;subst h;exact pu hl.1
  |succ i=>exact mG hl.2 (by simpa using h)
theorem SR.window{m:List Cz}{φ:Nat->Nat}{st st0:List AO}{w:World}{js:List Nat}(hs:SR m φ st w)(hj:js.Nodup)(hwin:eK js st (st0.map (AO.ren js)))(hlt:da js.length st0=true):
  Win js m (js.map λj=>m.getD j (.blk 0))/\SR (js.map λj=>m.getD j (.blk 0)) φ st0 w:=by
 obtain⟨hlen,hget⟩:=dq hwin;rw[List.length_map] at hlen;generalize hm0':(js.map λj=>m.getD j (.blk 0))=m0;have hW:Win js m m0:=λi j hij=>by
  have hjl:=(hget i j hij).2;have hjm:j<m.length:=by rw[hs.len];exact hjl
  simp only[<-hm0',List.getElem?_map,hij,Option.map_some,List.getD_eq_getElem?_getD,geG hjm,Option.getD_some]
 have hm0:m0.length=js.length:=by simp[<-hm0']
 have hs0:SR m0 φ st0 w:=by
  refine⟨by rw[hm0,hlen],λi o c h1 h2=>?_,hs.lt,λi j o o' c c' b h1 h2 l1 l2 h3 h4 h5 h6=>?_,hs.gl,λb ⟨i,c,h,h2⟩=>?_⟩;rotate_right;have hi:i<js.length:=by rw[<-hm0];exact(giS.1 h).1
  have h8:=hW i _ (geG hi);rw[h] at h8;exact hs.nb b ⟨_,c,h8.symm,h2⟩;have hi:i<js.length:=by rw[<-hlen];exact(giS.1 h1).1
  have hji:=geG hi;have h7:=(hget i _ hji).1;rw[List.getElem?_map,h1,Option.map_some] at h7;have h8:=hW i _ hji;rw[h2] at h8;exact(OR.ren hW (eu hlt h1)).1 (hs.obj _ _ _ h7 h8.symm);have hi:i<js.length:=by rw[<-hlen];exact(giS.1 h1).1
  have hi':j<js.length:=by rw[<-hlen];exact(giS.1 h2).1
  have hji:=geG hi;have hji':=geG hi';have h7:=(hget i _ hji).1;have h7':=(hget j _ hji').1;rw[List.getElem?_map,h1,Option.map_some] at h7;rw[List.getElem?_map,h2,Option.map_some] at h7';have h8:=hW i _ hji;have h8':=hW j _ hji';rw[h3] at h8;rw[h4] at h8';have:=hs.inj _ _ _ _ _ _ b h7 h7' (by rw[bI];exact l1) (by rw[bI];exact l2) h8.symm h8'.symm h5 h6;exact(List.getElem?_inj hi hj).1 (by rw[hji,hji',this])
 exact⟨hW,hs0⟩
theorem qW{js:List Nat}{m φ w}{st st0:List AO}(hs:SR m φ st w)(hj:js.Nodup)(hwin:eK js st (st0.map (AO.ren js)))(hlt:da js.length st0=true)(hlive:mH st0=true):
  ∃m0,Win js m m0/\SR m0 φ st0 w/\(∀as0 vs,AV.lts js.length as0=true->RAs m φ w (AV.rens js as0) vs->RAs m0 φ w as0 vs)/\
   ∀st1 m1 φ' w',Ev m0 φ w m1 φ' w'->SR m1 φ' st1 w'->st0.length<=st1.length->da js.length (st1.take st0.length)=true->
   ∃m',Ev m φ w m' φ' w'/\SR m' φ' (bU js ((st1.take st0.length).map (AO.ren js)) st) w'/\(∀r v,r.lt js.length=true->RA m1 φ' w' r v->RA m' φ' w' (r.ren js) v):=by
 obtain⟨hlen,hget⟩:=dq hwin;rw[List.length_map] at hlen;let m0:List Cz:=js.map λj=>m.getD j (.blk 0);have hW:Win js m m0:=λi j hij=>by
  have hjl:=(hget i j hij).2;have hjm:j<m.length:=by rw[hs.len];exact hjl
  simp only[m0,List.getElem?_map,hij,Option.map_some,List.getD_eq_getElem?_getD,geG hjm,Option.getD_some]
 have hm0:m0.length=js.length:=by simp[m0]
 have hs0:SR m0 φ st0 w:=by
  refine⟨by rw[hm0,hlen],λi o c h1 h2=>?_,hs.lt,λi j o o' c c' b h1 h2 l1 l2 h3 h4 h5 h6=>?_,hs.gl,λb ⟨i,c,h,h2⟩=>?_⟩;rotate_right;have hi:i<js.length:=by rw[<-hm0];exact(giS.1 h).1
  have h8:=hW i _ (geG hi);rw[h] at h8;exact hs.nb b ⟨_,c,h8.symm,h2⟩;have hi:i<js.length:=by rw[<-hlen];exact(giS.1 h1).1
  have hji:=geG hi;have h7:=(hget i _ hji).1;rw[List.getElem?_map,h1,Option.map_some] at h7;have h8:=hW i _ hji;rw[h2] at h8;exact(OR.ren hW (eu hlt h1)).1 (hs.obj _ _ _ h7 h8.symm);have hi:i<js.length:=by rw[<-hlen];exact(giS.1 h1).1
  have hi':j<js.length:=by rw[<-hlen];exact(giS.1 h2).1
  have hji:=geG hi;have hji':=geG hi';have h7:=(hget i _ hji).1;have h7':=(hget j _ hji').1;rw[List.getElem?_map,h1,Option.map_some] at h7;rw[List.getElem?_map,h2,Option.map_some] at h7';have h8:=hW i _ hji;have h8':=hW j _ hji';rw[h3] at h8;rw[h4] at h8';have:=hs.inj _ _ _ _ _ _ b h7 h7' (by rw[bI];exact l1) (by rw[bI];exact l2) h8.symm h8'.symm h5 h6;exact(List.getElem?_inj hi hj).1 (by rw[hji,hji',this])
 refine⟨m0,hW,hs0,λas0 vs hla ha=>(RAs.ren hW as0 vs hla).1 ha,λst1 m1 φ' w' hev hsr hle hlt1=>?_⟩;have hm1:js.length<=m1.length:=by rw[hsr.len,<-hlen];exact hle
 let m':=cT js (m1.take js.length) m;let st':=bU js ((st1.take st0.length).map (AO.ren js)) st;have hjm:∀j∈js,j<m.length:=λj hj'=>by
  obtain⟨a,ha'⟩:=List.getElem?_of_mem hj';rw[hs.len];exact(hget a j ha').2
 have hjs:∀j∈js,j<st.length:=λj hj'=>by rw[<-hs.len];exact hjm j hj'
 have gm:=jc (js:=js) (os:=m1.take js.length) (st:=m) hj (by simp[hm1]) hjm;have gs:=hG (js:=js) (os:=(st1.take st0.length).map (AO.ren js)) (st:=st) hj (by simp[hlen];omega) hjs;have hW':Win js m' m1:=λi j hij=>by
  have hi:i<js.length:=(giS.1 hij).1;show _=(cT js (m1.take js.length) m)[j]?;rw[(gm j).1 i hij,List.getElem?_take,if_pos hi]
 have inm0:∀b,In m0 b->In m b:=by
  rintro b ⟨i,c,h1,h2⟩;have hi:i<js.length:=by rw[<-hm0];exact(giS.1 h1).1
  have h8:=hW i _ (geG hi);rw[h1] at h8;exact⟨_,c,h8.symm,h2⟩
 have hpre:Pre m m':=λi c hi=>by
  by_cases hij:i∈js;obtain⟨a,ha'⟩:=List.getElem?_of_mem hij;have h8:=hW a _ ha';rw[hi] at h8;obtain⟨c',h9,h10⟩:=hev.pre a c h8;refine⟨c',?_,h10⟩;have:=hW' a _ ha';rw[<-this];exact h9;exact⟨c,by show(cT js (m1.take js.length) m)[i]? =_;rw[(gm i).2 hij];exact hi,Cz.le_refl c⟩
 have hev':Ev m φ w m' φ' w':=by
  refine⟨hpre,?_,hev.os,hev.tape,hev.output,hev.size,λb hb hn=>hev.keep b hb (λh=>hn (inm0 b h)),hev.fz⟩;rintro b ⟨i,c,h1,h2⟩;by_cases hij:i∈js;obtain⟨a,ha'⟩:=List.getElem?_of_mem hij;have:=hW' a _ ha';rw[h1] at this;rcases hev.new b ⟨a,c,this,h2⟩ with h|h
  exact .inl (inm0 b h);exact .inr h;have h1':(cT js (m1.take js.length) m)[i]? =some c:=h1;rw[(gm i).2 hij] at h1';exact .inl ⟨i,c,h1',h2⟩
 have out:∀(i:Nat)(o:AO)(c:Cz)(b:Nat),i∉js->st[i]? =some o->o.live=true->m[i]? =some c->c.has b->¬In m0 b:=by
  rintro i o c b hij h1 hlv h2 h3 ⟨a,c',h4,h5⟩;have hi:a<js.length:=by rw[<-hm0];exact(giS.1 h4).1
  have hja:=geG hi;have h8:=hW a _ hja;rw[h4] at h8;have ha0:a<st0.length:=by rw[hlen];exact hi
  have h9:=(hget a _ hja).1;rw[List.getElem?_map,geG ha0,Option.map_some] at h9;rcases mG hlive (geG ha0) with hl9|hl9
  have:=hs.inj _ _ _ _ _ _ b h1 h9 hlv (by rw[bI];exact hl9) h2 h8.symm h3 h5;exact hij (this▸List.getElem_mem hi);rw[hl9] at h9;have h10:c'= .non:=hs.obj _ _ _ h9 h8.symm;subst h10;exact h5
 have hst:∀(i:Nat)(o:AO),i∉js->st'[i]? =some o->st[i]? =some o:=λi o hij h=>by
  have:(bU js ((st1.take st0.length).map (AO.ren js)) st)[i]? =some o:=h;rwa [(gs i).2 hij] at this
 have hmm:∀(i:Nat)(c:Cz),i∉js->m'[i]? =some c->m[i]? =some c:=λi c hij h=>by
  have:(cT js (m1.take js.length) m)[i]? =some c:=h;rwa [(gm i).2 hij] at this
 have hst1:∀(a i:Nat)(o:AO),js[a]? =some i->st'[i]? =some o->∃o1,st1[a]? =some o1/\o=o1.ren js/\o1.lt js.length=true:=λa i o ha' h=>by
  have:(bU js ((st1.take st0.length).map (AO.ren js)) st)[i]? =some o:=h;rw[(gs i).1 a ha',List.getElem?_map] at this;have hal:a<st0.length:=by rw[hlen];exact(giS.1 ha').1
  cases ht:(st1.take st0.length)[a]? with
  |none=>rw[ht] at this;simp at this
  |some o1=>rw[ht,Option.map_some,ao] at this;exact⟨o1,(bL ht).2,this.symm,eu hlt1 ht⟩
 refine⟨m',hev',⟨?_,?_,hsr.lt,?_,hsr.gl,?_⟩,λr v hrl hra=>(RA.ren hW' r v hrl).2 hra⟩;rotate_right;rintro b ⟨i,c,h1,h2⟩;by_cases hij:i∈js;obtain⟨a,ha'⟩:=List.getElem?_of_mem hij;have:=hW' a _ ha';rw[h1] at this;exact hsr.nb b ⟨a,c,this,h2⟩;have h1':(cT js (m1.take js.length) m)[i]? =some c:=h1;rw[(gm i).2 hij] at h1';exact Nat.lt_of_lt_of_le (hs.nb b ⟨i,c,h1',h2⟩) hev.size;show(cT _ _ _).length=(bU _ _ _).length;rw[fB,eX];exact hs.len;intro i o c h1 h2;by_cases hij:i∈js;obtain⟨a,ha'⟩:=List.getElem?_of_mem hij;obtain⟨o1,h3,rfl,h4⟩:=hst1 a i o ha' h1;have h5:=hW' a i ha';rw[h2] at h5;exact(OR.ren hW' h4).2 (hsr.obj a o1 c h3 h5);have h1':=hst i o hij h1;have h2':=hmm i c hij h2;have hor:=hs.obj i o c h1' h2';cases hlv:o.live with
 |false=>cases o<;>first|trivial|exact h|(simp[AO.live] at hlv;done)
 |true=>exact hor.congr hpre hev.fz (λb hb=>hev.keep b (hor.block_lt hlv hb) (out i o c b hij h1' hlv h2' hb))
 intro i j o o' c c' b h1 h2 l1 l2 h3 h4 h5 h6;have mixed:∀(i j:Nat)(o o':AO)(c c':Cz),i∉js->j∈js->st'[i]? =some o->m'[i]? =some c->o.live=true->m'[j]? =some c'->c.has b->c'.has b->False:=by
  intro i j o o' c c' hi hj' g1 g2 g3 g4 g5 g6;obtain⟨a,ha'⟩:=List.getElem?_of_mem hj';have g1':=hst i o hi g1;have g2':=hmm i c hi g2;have h7:=hW' a _ ha';rw[g4] at h7;rcases hev.new b ⟨a,c',h7,g6⟩ with h|h
  exact out i o c b hi g1' g3 g2' g5 h;have:=(hs.obj i o c g1' g2').block_lt g3 g5;omega
 by_cases hi:i∈js;by_cases hj':j∈js;obtain⟨a,ha'⟩:=List.getElem?_of_mem hi;obtain⟨a2,ha2⟩:=List.getElem?_of_mem hj';obtain⟨o1,q1,rfl,_⟩:=hst1 a i o ha' h1;obtain⟨o2,q2,rfl,_⟩:=hst1 a2 j o' ha2 h2;have h7:=hW' a _ ha';have h8:=hW' a2 _ ha2;rw[h3] at h7;rw[h4] at h8;have:=hsr.inj a a2 o1 o2 c c' b q1 q2 (by rw[<-bI];exact l1) (by rw[<-bI];exact l2) h7 h8 h5 h6;subst this;rw[ha'] at ha2;exact inS ha2;exact(mixed j i o' o c' c hj' hi h2 h4 l2 h3 h6 h5).elim;by_cases hj':j∈js;exact(mixed i j o o' c c' hi hj' h1 h3 l1 h4 h5 h6).elim;exact hs.inj i j o o' c c' b (hst i o hi h1) (hst j o' hj' h2) l1 l2 (hmm i c hi h3) (hmm j c' hj' h4) h5 h6
theorem rL{js:List Nat}{m φ w}{st st0:List AO}(hs:SR m φ st w)(hj:js.Nodup)(hwin:eK js st (st0.map (AO.ren js)))(hlt:da js.length st0=true)(hlive:mH st0=true):
  ∃m0,SR m0 φ st0 w/\(∀as0 vs,AV.lts js.length as0=true->RAs m φ w (AV.rens js as0) vs->RAs m0 φ w as0 vs)/\
   ∀st1 m1 φ' w',Ev m0 φ w m1 φ' w'->SR m1 φ' st1 w'->st0.length<=st1.length->da js.length (st1.take st0.length)=true->
   ∃m',Ev m φ w m' φ' w'/\SR m' φ' (bU js ((st1.take st0.length).map (AO.ren js)) st) w'/\(∀r v,r.lt js.length=true->RA m1 φ' w' r v->RA m' φ' w' (r.ren js) v):=
 let ⟨m0,_,h⟩:=qW hs hj hwin hlt hlive
 ⟨m0,h⟩
def eg(k:Nat)(S:AV->List AO->Prop)(r:AV)(st1:List AO):Prop:=k<=st1.length/\S r (st1.take k)
section
variable{P:Program}{e:En}{ops:Array Oper}{l rest:List Oper}{o:Oper}{env:Env}{st:List AO}{R:Env->List AO->Prop}{RP:List PanicEntry->Env->List AO->Prop}{d:Nat}{k:Ko}
theorem cH{f:FuncId}{c:Call}{x:Operand}{first caps asz as0:List AV}{st0 st0':List AO}{S:AV->List AO->Prop}(js:List Nat)(hop:o.op= .call c)(hx:c.callee= .value x)
  (hf:opv env x=some (.fn (.func f) first caps))(has:c4 env c.args.toList=some asz)(hc:Ctr P f as0 st0 (eg st0.length S))(hl:Les (first++asz++caps) (AV.rens js as0))
  (hla:AV.lts js.length as0=true)(hj:js.Nodup)(hren0:st0.map (AO.ren js)=st0')(hwin:eK js st st0')(hlt:da js.length st0=true)(hlive:mH st0=true)
  (hw:Wt ops env o true)(ho:o.dst=some d)(hd:Nat.ble (d+1) e.n=true)
  (h:∀r new,S r new->∃r' new',r.ren js=r'/\new.map (AO.ren js)=new'/\r.lt js.length=true/\da js.length new=true/\WL P e ops rest ((d,r')::env) (bU js new' st) R):WL P e ops (o::rest) env st R:=λm φ a w hi=>by
 obtain⟨vs,h1,h2⟩:=fb (P:=P) hi.env hop hx hf has hc.1;unfold d5;rw[if_pos (hw _ _ _ _ hi.env)];refine .inl ?_;simp only[Oper.wp,h2,Oper.upon,ho];obtain⟨m0,g1,g2,g3⟩:=rL hi.sr hj (by rw[hren0];exact hwin) hlt hlive;refine(hc.2 m0 φ w vs g1 (g2 _ _ hla (hl.ras h1))).mono ?_;rintro en w' ⟨v,r,st1,m1,φ',rfl,⟨q1,q2⟩,hev,hsr,hra⟩;obtain⟨_,_,rfl,rfl,k1,k2,k3⟩:=h r _ q2;obtain⟨m',p1,p2,p3⟩:=g3 st1 m1 φ' w' hev hsr q1 k2;exact k3 m' φ' _ w' (hi.ev_put p1 p2 (nbT hd) (p3 r v k1 hra))
end
section
variable{P:Program}{e:En}{fn:Func}{env:Env}{st:List AO}{k:Nat}
theorem qc{m':List Cz}{φ φ':Nat->Nat}{w w':World}{st' st1:List AO}{perm:List Nat}{r0:AV}{new:List AO}{m0:List Cz}{v:Value}(hs:SR m' φ' st' w')(hev:Ev m0 φ w m' φ' w')(hra:RA m' φ' w' (r0.ren perm) v)(hwk:SLe st' st1)
  (hp:perm.Nodup)(hwin:eK perm st1 (new.map (AO.ren perm)))(hlt:da perm.length new=true)(hr0:r0.lt perm.length=true)(hk:m0.length=perm.length)
  (hfix:∀i:Nat,i<perm.length->perm[i]? =some i\/st'[i]? =some .rsv):
  ∃m2,Ev m0 φ w m2 φ' w'/\SR m2 φ' new w'/\RA m2 φ' w' r0 v:=by
 obtain⟨hW,hs2⟩:=(hs.weak hwk).window hp hwin hlt;generalize hm2:(perm.map λj=>m'.getD j (.blk 0))=m2 at hW hs2;obtain⟨hlen,hget⟩:=dq hwin;have hl2:m2.length=perm.length:=by simp[<-hm2]
 have hm1:m'.length=st1.length:=by rw[(hs.weak hwk).len]
 refine⟨m2,⟨λi c hi=>?_,λb ⟨i,c,h1,h2⟩=>?_,hev.os,hev.tape,hev.output,hev.size,hev.keep,hev.fz⟩,hs2,(RA.ren hW r0 v hr0).1 hra⟩;have hil:i<perm.length:=by rw[<-hk];exact(giS.1 hi).1
 obtain⟨c',h1,h2⟩:=hev.pre i c hi;rcases hfix i hil with h|h
 have:=hW i i h;exact⟨c',this.trans h1,h2⟩;have h3:c'= .non:=hs.obj i _ c' h h1;subst h3;obtain⟨c2,h4⟩:∃c2,m2[i]? =some c2:=⟨_,geG (by rw[hl2];exact hil)⟩;refine⟨c2,h4,?_⟩;cases c with
 |non=>trivial
 |blk b=>simp[Cz.le] at h2
 |tok v y=>simp[Cz.le] at h2
 |fam v y=>simp[Cz.le] at h2
 have hil:i<perm.length:=by rw[<-hl2];exact(giS.1 h1).1
 have:=hW i _ (geG hil);rw[h1] at this;exact hev.new b ⟨_,c,this.symm,h2⟩
theorem nZ{S:AV->List AO->Prop}{m0 φ0 w0 n}{r:AV}(perm:List Nat)(r0:AV)(new:List AO){st1:List AO}(hr:Res P fn env st r)(hl:Le r (r0.ren perm))(hwk:SLe st st1)
  (hp:perm.Nodup)(hwin:eK perm st1 (new.map (AO.ren perm)))(hlt:da perm.length new=true)(hr0:r0.lt perm.length=true)(hm0:m0.length=k)(hk:k=perm.length)
  (hfix:∀i:Nat,i<perm.length->perm[i]? =some i\/st[i]? =some .rsv)(hS:S r0 new):WE P ⟨m0,φ0,w0,n,none,none⟩ .ret (.fin fn (eg k S)) env st:=λm φ a w hi=>by
 have h:=c6 (F:=EF none) (n:=0) (e:=⟨m0,φ0,w0,n,none,none⟩) (Q:=λr' st'=>r'=r0.ren perm/\st'=st) (hr.le hl) ⟨rfl,rfl⟩ a.defers w hi.df.marks hi.sr hi.env hi.ev;refine LeavesInM.mono (R:=c8 ⟨m0,φ0,w0,n,none,none⟩ λr' st'=>r'=r0.ren perm/\st'=st) ?_ _ _ _ h;rintro en w' ⟨v,r',st',m',φ',rfl,⟨rfl,rfl⟩,hev,hsr,hra⟩;obtain⟨m2,g1,g2,g3⟩:=qc hsr hev hra hwk hp hwin hlt hr0 (by show m0.length=_;rw[hm0,hk]) hfix;have hnl:new.length=k:=by have:=(dq hwin).1;rw[List.length_map] at this;rw[this,hk]
 exact⟨v,r0,new,m2,φ',rfl,⟨oM,by rw[<-hnl,List.take_length];exact hS⟩,g1,g2,g3⟩
end
section
variable{P:Program}{e:En}{fn:Func}{env:Env}{st:List AO}{k:Nat}
theorem oh:∀(k:Nat)(st new:List AO),SLe (st.take k) new->SLe st (new++st.drop k)
 |0,_st,[],_=>SLe.refl _
 |0,_st,_::_,h=>h.elim
 |_k+1,[],[],_=>trivial
 |_k+1,[],_::_,h=>h.elim
 |_k+1,_b::_st,[],h=>h.elim
 |k+1,_b::st,_a::new,h=>⟨h.1,oh k st new h.2⟩
theorem n4{S:AV->List AO->Prop}{r r0:AV}{new:List AO}(hr:Res P fn env st r)(hl:Le r r0)(hk:Nat.ble k st.length=true)(hs:SLe (st.take k) new)(hS:S r0 new)(hds:e.nd=true:=by rfl):WE P e .ret (.fin fn (eg k S)) env st:=by
 have hk:=nbT hk;have hnl:new.length=k:=by rw[hs.length,List.length_take];omega
 refine gc hr hl (oh k st new hs) ⟨?_,?_⟩ hds;rw[List.length_append,hnl];omega;rw[<-hnl,List.take_left];exact hS
end
inductive Rs(α:Type) where
 |ok(a:α)
 |bad(e:Int)
def Rs.cs{α β:Type}:Rs α->(Int->β)->(α->β)->β
 | .bad e,f,_=>f e
 | .ok a,_,g=>g a
section
variable{P:Program}{fn:Func}{env:Env}{st st':List AO}{f:FuncId}{caps:List AV}
end
def Ko.plain:Ko->Bool
 | .fin _ _=>true
 | .seq _ k=>k.plain
 |_=>false
end Go.Sk
namespace Go.Sk
open Go.RowKit (Below)
section
variable{P:Program}{e:En}{l:List Oper}{rs:List AV}{base:Env}{sts:Nat->List AO}{es:List Nat}
end
end Go.Sk
namespace Go.Sk
open Go.RowKit (Below)
section
variable{P:Program}{e:En}{ops:Array Oper}{l rest:List Oper}{K:Ko}{env:Env}{st:List AO}{R:Env->List AO->Prop}{dst:Option Tmp}{ty:TypeId}{pos:String}{after:Array Edge}{guard:Option (Nat×Bool)}
theorem wb{x:Exit}{st':List AO}(hs:st=st')(h:WE P e x K env st'):WE P e x K env st:=hs▸h
end
end Go.Sk
namespace Go.Sk
open Go.RowKit (Below)
section
variable{P:Program}{e:En}{ops:Array Oper}{l rest:List Oper}{K:Ko}{env:Env}{st:List AO}{R:Env->List AO->Prop}{dst:Option Tmp}{ty:TypeId}{pos:String}{after:Array Edge}{guard:Option (Nat×Bool)}
end
end Go.Sk
namespace Go.Sk
open Go.RowKit (Below)
section
variable{P:Program}{env:Env}{st:List AO}{dst:Option Tmp}{ty:TypeId}{pos:String}{after:Array Edge}{guard:Option (Nat×Bool)}
end
section
variable{P:Program}{fn:Func}{env:Env}{st st':List AO}{f:FuncId}{caps:List AV}{k:Nat}
end
end Go.Sk
namespace Go.Sk
open Go.RowKit (Below)
section
variable{P:Program}{e:En}{ops:Array Oper}{rest:List Oper}{env:Env}{st:List AO}{R:Env->List AO->Prop}{ty:TypeId}{pos:String}{after:Array Edge}{guard:Option (Nat×Bool)}
end
def rsvs(k:Nat)(st:List AO):Bool:=(List.range k).all λi=>match st[i]? with|some .rsv=>true|_=>false
theorem oo{k:Nat}{st:List AO}(h:rsvs k st=true){i:Nat}(hi:i<k):st[i]? =some .rsv:=by have:=List.all_eq_true.1 h i (List.mem_range.2 hi);split at this;assumption;cases this
end Go.Sk
namespace Go.Sk
open Go.RowKit (Below)
def Cz.rv(t:Nat):Cz->Cz
 | .tok _ y=> .tok t y
 | .fam _ ys=> .fam t ys
 |c=>c
theorem gJ{t:Nat}{c:Cz}{b:Nat}:(c.rv t).has b↔c.has b:=by cases c<;>exact Iff.rfl
mutual
def AV.rv(cur T:Nat->Nat):AV->AV
 | .d x=> .d x
 | .pt i o=> .pt i o
 | .os i v=>bif Nat.beq v (cur i) then .os i (T i) else .u
 | .osf i j v=>bif Nat.beq v (cur i) then .osf i j (T i) else .u
 | .tu l=> .tu (AV.rvs cur T l)
 |_=> .u
def AV.rvs(cur T:Nat->Nat):List AV->List AV
 |[]=> []
 |x::l=>AV.rv cur T x::AV.rvs cur T l
end
theorem lU(cur T:Nat->Nat):∀l:List AV,AV.rvs cur T l=l.map (AV.rv cur T)
 |[]=>rfl
 |x::l=>by rw[AV.rvs,lU cur T l];rfl
def AO.rv(cur T:Nat->Nat)(i:Nat):AO->AO
 | .row t cs=> .row t (cs.map (AV.rv cur T))
 | .os t k _ es=> .os t k (T i) (es.map λe=>e.map (AV.rv cur T))
 | .fam t k _ ess=> .fam t k (T i) (ess.map λes=>es.map λe=>e.map (AV.rv cur T))
 | .rsv=> .rsv
 |_=> .dead
def AO.curOk(cur:Nat->Nat)(i:Nat):AO->Prop
 | .os _ _ v _=>v=cur i
 | .fam _ _ v _=>v=cur i
 |_=>True
section
variable{m m3:List Cz}{φ:Nat->Nat}{w:World}{cur T:Nat->Nat}
mutual
theorem RA.rv(h3:∀(i:Nat)(c:Cz),m[i]? =some c->m3[i]? =some (c.rv (T i)))(hc:∀(i v:Nat)(y:Value),m[i]? =some (.tok v y)->v=cur i)(hf:∀(i v:Nat)(y:List Value),m[i]? =some (.fam v y)->v=cur i):∀(x:AV)(y:Value),RA m φ w x y->RA m3 φ w (x.rv cur T) y
 | .d x,y,h=>by simpa[RA,AV.rv] using h
 | .pt i o,y,h=>by
  simp only[RA,AV.rv] at h⊢;obtain⟨b,h1,h2⟩:=h;exact⟨b,h3 _ _ h1,h2⟩
 | .os i v,y,h=>by
  simp only[RA] at h;obtain⟨v0,y0,h1,_,h2⟩:=h;simp only[AV.rv];cases hb:Nat.beq v (cur i) with
  |false=>simp[RA]
  |true=>have hv:=nbE hb;have:=hc i _ _ h1;simp only[cdT,RA];exact⟨T i,y0,h3 _ _ h1,Nat.le_refl _,λ_=>h2 oM⟩
 | .osf i j v,y,h=>by
  simp only[RA] at h;obtain⟨v0,y0,h1,_,h2⟩:=h;simp only[AV.rv];cases hb:Nat.beq v (cur i) with
  |false=>simp[RA]
  |true=>have hv:=nbE hb;have:=hf i _ _ h1;simp only[cdT,RA];exact⟨T i,y0,h3 _ _ h1,Nat.le_refl _,λ_=>h2 oM⟩
 | .tu l,y,h=>by
  simp only[RA,AV.rv] at h⊢;obtain⟨cs,h1,h2⟩:=h;exact⟨cs,h1,RAs.rv h3 hc hf l cs h2⟩
 | .u,_,_=>by simp[AV.rv,RA]
 | .ag _,_,_=>by simp[AV.rv,RA]
 | .sr _ _ _ _,_,_=>by simp[AV.rv,RA]
 | .fn _ _ _,_,_=>by simp[AV.rv,RA]
 | .mp _,_,_=>by simp[AV.rv,RA]
 | .pe _ _ _,_,_=>by simp[AV.rv,RA]
 | .ow _ _ _ _ _,_,_=>by simp[AV.rv,RA]
 | .fs _,_,_=>by simp[AV.rv,RA]
 | .ifc _ _,_,_=>by simp[AV.rv,RA]
 | .pem _ _ _ _,_,_=>by simp[AV.rv,RA]
 | .yl _,_,_=>by simp[AV.rv,RA]
 | .kv _ _,_,_=>by simp[AV.rv,RA]
theorem RAs.rv(h3:∀(i:Nat)(c:Cz),m[i]? =some c->m3[i]? =some (c.rv (T i)))(hc:∀(i v:Nat)(y:Value),m[i]? =some (.tok v y)->v=cur i)(hf:∀(i v:Nat)(y:List Value),m[i]? =some (.fam v y)->v=cur i):∀(xs:List AV)(ys:List Value),RAs m φ w xs ys->RAs m3 φ w (AV.rvs cur T xs) ys
 |[],ys,h=>by simpa[RAs,AV.rvs] using h
 |x::xs,ys,h=>by
  simp only[RAs,AV.rvs] at h⊢;obtain⟨c,cs,h1,h2,h4⟩:=h;exact⟨c,cs,h1,RA.rv h3 hc hf x c h2,RAs.rv h3 hc hf xs cs h4⟩
end
theorem RAs.rvm(h3:∀(i:Nat)(c:Cz),m[i]? =some c->m3[i]? =some (c.rv (T i)))(hc:∀(i v:Nat)(y:Value),m[i]? =some (.tok v y)->v=cur i)(hf:∀(i v:Nat)(y:List Value),m[i]? =some (.fam v y)->v=cur i){xs:List AV}{ys:List Value}(h:RAs m φ w xs ys):RAs m3 φ w (xs.map (AV.rv cur T)) ys:=by rw[<-lU];exact RAs.rv h3 hc hf xs ys h
theorem OR.rv(h3:∀(i:Nat)(c:Cz),m[i]? =some c->m3[i]? =some (c.rv (T i)))(hc:∀(i v:Nat)(y:Value),m[i]? =some (.tok v y)->v=cur i)(hf:∀(i v:Nat)(y:List Value),m[i]? =some (.fam v y)->v=cur i){i:Nat}{o:AO}{c:Cz}(h:OR m φ w o c):OR m3 φ w (o.rv cur T i) (c.rv (T i)):=by
 cases o with
 |row t cs=>obtain⟨b,rfl,h0,vs,h1,h2⟩:=h;exact⟨b,rfl,h0,vs,h1,h2.rvm h3 hc hf⟩
 |os t k v es=>obtain⟨y,xs,rfl,h1,h2,h4,h5⟩:=h;refine⟨y,xs,rfl,by rw[List.length_map];exact h1,?_,λe he=>?_,h5⟩;rw[dF];exact h2.rvm h3 hc hf;obtain⟨e',he',rfl⟩:=List.mem_map.1 he;rw[List.length_map];exact h4 e' he'
 |fam t k v ess=>
  obtain⟨ys,rfl,h1,h2,h4⟩:=h;refine⟨ys,rfl,by rw[List.length_map];exact h1,λj es y hj hy=>?_,h4⟩;rw[List.getElem?_map] at hj;cases hg:ess[j]? with
  |none=>rw[hg] at hj;cases hj
  |some es0=>rw[hg,Option.map_some,ao] at hj;subst hj;obtain⟨xs,g1,g2,g3,g4⟩:=h2 j es0 y hg hy;refine⟨xs,by rw[List.length_map];exact g1,?_,λe he=>?_,g4⟩;rw[dF];exact g2.rvm h3 hc hf;obtain⟨e',he',rfl⟩:=List.mem_map.1 he;rw[List.length_map];exact g3 e' he'
 |rsv=>simp only[OR] at h;subst h;rfl
 |_=>trivial
end
def eV(cur T:Nat->Nat):Nat->List AO->List AO
 |_,[]=> []
 |i,o::l=>o.rv cur T i::eV cur T (i+1) l
theorem ky{cur T:Nat->Nat}:∀{l:List AO}{k i:Nat},(eV cur T k l)[i]? =(l[i]?).map (AO.rv cur T (k+i))
 |[],k,i=>by simp[eV]
 |o::l,k,0=>by simp[eV]
 |o::l,k,i+1=>by simp only[eV,List.getElem?_cons_succ,ky (l:=l)];congr 2;omega
theorem gY{cur T:Nat->Nat}:∀{l:List AO}{k:Nat},(eV cur T k l).length=l.length
 |[],_=>rfl
 |o::l,k=>by simp[eV,gY (l:=l)]
def jQ(T:Nat->Nat):Nat->List Cz->List Cz
 |_,[]=> []
 |i,c::l=>c.rv (T i)::jQ T (i+1) l
theorem il{T:Nat->Nat}:∀{l:List Cz}{k i:Nat},(jQ T k l)[i]? =(l[i]?).map (λc=>c.rv (T (k+i)))
 |[],k,i=>by simp[jQ]
 |o::l,k,0=>by simp[jQ]
 |o::l,k,i+1=>by simp only[jQ,List.getElem?_cons_succ,il (l:=l)];congr 2;funext c;congr 1;congr 1;omega
theorem kz{T:Nat->Nat}:∀{l:List Cz}{k:Nat},(jQ T k l).length=l.length
 |[],_=>rfl
 |o::l,k=>by simp[jQ,kz (l:=l)]
theorem lX{cur T:Nat->Nat}{i:Nat}{o:AO}(h:(o.rv cur T i).live=true):o.live=true:=by cases o<;>first|rfl|exact h|(simp[AO.rv,AO.live] at h)
theorem SR.rv{m:List Cz}{φ w}{st:List AO}{cur T:Nat->Nat}(hs:SR m φ st w)(hcur:∀(i:Nat)(o:AO),st[i]? =some o->o.curOk cur i)(hall:∀o∈st,o≠ .dead/\(∀s p,o≠ .si s p)/\(∀a b c d,o≠ .lp a b c d)/\∀l,o≠ .mp l):
  SR (jQ T 0 m) φ (eV cur T 0 st) w/\(∀x v,RA m φ w x v->RA (jQ T 0 m) φ w (x.rv cur T) v):=by
 have h3:∀(i:Nat)(c:Cz),m[i]? =some c->(jQ T 0 m)[i]? =some (c.rv (T i)):=λi c h=>by rw[il,h];simp
 have hobj:∀(i:Nat)(c:Cz),m[i]? =some c->∃o,st[i]? =some o/\OR m φ w o c:=λi c h=>by
  have hi:i<st.length:=by rw[<-hs.len];exact(giS.1 h).1
  exact⟨_,geG hi,hs.obj i _ c (geG hi) h⟩
 have hc:∀(i v:Nat)(y:Value),m[i]? =some (.tok v y)->v=cur i:=λi v y h=>by
  obtain⟨o,h1,h2⟩:=hobj i _ h;have h4:=hcur i o h1;have h5:=hall o (List.mem_of_getElem? h1);cases o with
  |os t k v' es=>obtain⟨y',_,h6,_⟩:=h2;simp only[Cz.tok.injEq] at h6;rw[h6.1];exact h4
  |row t cs=>obtain⟨b,h6,_⟩:=h2;cases h6
  |fam t k v' es=>obtain⟨ys,h6,_⟩:=h2;cases h6
  |rsv=>simp only[OR] at h2;cases h2
  |dead=>exact absurd rfl h5.1
  |mp l=>exact absurd rfl (h5.2.2.2 _)
  |si s p=>exact absurd rfl (h5.2.1 _ _)
  |mb a b c=>obtain⟨b,h6,_⟩:=h2;cases h6
  |it a b c d=>obtain⟨b,h6,_⟩:=h2;cases h6
  |lp a b c d=>exact absurd rfl (h5.2.2.1 _ _ _ _)
 have hf:∀(i v:Nat)(y:List Value),m[i]? =some (.fam v y)->v=cur i:=λi v y h=>by
  obtain⟨o,h1,h2⟩:=hobj i _ h;have h4:=hcur i o h1;have h5:=hall o (List.mem_of_getElem? h1);cases o with
  |os t k v' es=>obtain⟨y',_,h6,_⟩:=h2;cases h6
  |row t cs=>obtain⟨b,h6,_⟩:=h2;cases h6
  |fam t k v' es=>obtain⟨ys,h6,_⟩:=h2;simp only[Cz.fam.injEq] at h6;rw[h6.1];exact h4
  |rsv=>simp only[OR] at h2;cases h2
  |dead=>exact absurd rfl h5.1
  |mp l=>exact absurd rfl (h5.2.2.2 _)
  |si s p=>exact absurd rfl (h5.2.1 _ _)
  |mb a b c=>obtain⟨b,h6,_⟩:=h2;cases h6
  |it a b c d=>obtain⟨b,h6,_⟩:=h2;cases h6
  |lp a b c d=>exact absurd rfl (h5.2.2.1 _ _ _ _)
 have back:∀(i:Nat)(c:Cz),(jQ T 0 m)[i]? =some c->∃c0,m[i]? =some c0/\c=c0.rv (T i):=λi c h=>by
  rw[il] at h;cases hg:m[i]? with
  |none=>rw[hg] at h;cases h
  |some c0=>rw[hg,Option.map_some,ao,Nat.zero_add] at h;exact⟨c0,rfl,h.symm⟩
 have backO:∀(i:Nat)(o:AO),(eV cur T 0 st)[i]? =some o->∃o0,st[i]? =some o0/\o=o0.rv cur T i:=λi c h=>by
  rw[ky] at h;cases hg:st[i]? with
  |none=>rw[hg] at h;cases h
  |some c0=>rw[hg,Option.map_some,ao,Nat.zero_add] at h;exact⟨c0,rfl,h.symm⟩
 refine⟨⟨by rw[kz,gY];exact hs.len,λi o c h1 h2=>?_,hs.lt,λi j o o' c c' b h1 h2 l1 l2 k1 k2 e1 e2=>?_,hs.gl,λb ⟨i,c,h1,h2⟩=>?_⟩,λx v h=>RA.rv h3 hc hf x v h⟩;obtain⟨o0,g1,rfl⟩:=backO i o h1;obtain⟨c0,g2,rfl⟩:=back i c h2;exact OR.rv h3 hc hf (hs.obj i o0 c0 g1 g2);obtain⟨o0,g1,rfl⟩:=backO i o h1;obtain⟨o1,g2,rfl⟩:=backO j o' h2;obtain⟨c0,g3,rfl⟩:=back i c k1;obtain⟨c1,g4,rfl⟩:=back j c' k2;exact hs.inj i j o0 o1 c0 c1 b g1 g2 (lX l1) (lX l2) g3 g4 (gJ.1 e1) (gJ.1 e2);obtain⟨c0,g3,rfl⟩:=back i c h1;exact hs.nb b ⟨i,c0,g3,gJ.1 h2⟩
def AO.plainB:AO->Bool| .dead=>false| .si _ _=>false| .lp _ _ _ _=>false| .mp _=>false|_=>true
theorem oy{l:List AO}(h:l.all AO.plainB=true):∀o∈l,o≠ .dead/\(∀s p,o≠ .si s p)/\(∀a b c d,o≠ .lp a b c d)/\∀l,o≠ .mp l:=λo ho=>by
 have:=List.all_eq_true.1 h o ho;cases o<;>simp_all [AO.plainB]
def pY(cur:Nat->Nat):Nat->List AO->Prop
 |_,[]=>True
 |i,o::l=>o.curOk cur i/\pY cur (i+1) l
theorem lc{cur:Nat->Nat}:∀{l:List AO}{k:Nat},pY cur k l->∀(i:Nat)(o:AO),l[i]? =some o->o.curOk cur (k+i)
 |o::l,k,h,0,o',ho=>by simp only[List.getElem?_cons_zero,ao] at ho;subst ho;exact h.1
 |o::l,k,h,i+1,o',ho=>by
  have:=lc h.2 i o' (by simpa using ho);rw[show k+(i+1)=k+1+i by omega];exact this
 |[],_,_,i,o',ho=>by simp at ho
theorem jC{P:Program}{fn:Func}{env:Env}{st st1:List AO}{k:Nat}{S:AV->List AO->Prop}{m0 φ0 w0 n}{r r1 r2:AV}(perm:List Nat)(r0:AV)(new:List AO)(cur T:Nat->Nat){new' new2:List AO}(hr:Res P fn env st r)(hrr:r0.ren perm=r1)(hl:Le r r1)(hwk:SLe st st1)
  (hp:perm.Nodup)(hren:new.map (AO.ren perm)=new')(hwin:eK perm st1 new')(hlt:da perm.length new=true)(hr0:r0.lt perm.length=true)(hm0:m0.length=k)(hk:k=perm.length)
  (hfix:rsvs k st=true)(hcur:pY cur 0 new)(hpl:new.all AO.plainB=true)(hn2:eV cur T 0 new=new2)(hr2:r0.rv cur T=r2)(hS:S r2 new2):WE P ⟨m0,φ0,w0,n,none,none⟩ .ret (.fin fn (eg k S)) env st:=λm φ a w hi=>by
 have h:=c6 (F:=EF none) (n:=0) (e:=⟨m0,φ0,w0,n,none,none⟩) (Q:=λr' st'=>r'=r0.ren perm/\st'=st) (hr.le (by rw[hrr];exact hl)) ⟨rfl,rfl⟩ a.defers w hi.df.marks hi.sr hi.env hi.ev;refine LeavesInM.mono (R:=c8 ⟨m0,φ0,w0,n,none,none⟩ λr' st'=>r'=r0.ren perm/\st'=st) ?_ _ _ _ h;rintro en w' ⟨v,r',st',m',φ',rfl,⟨rfl,rfl⟩,hev,hsr,hra⟩;obtain⟨m2,g1,g2,g3⟩:=qc hsr hev hra hwk hp (by rw[hren];exact hwin) hlt hr0 (by show m0.length=_;rw[hm0,hk]) (λi hi=> .inr (oo hfix oM));have hnl:new.length=k:=by have:=(dq hwin).1;rw[<-hren,List.length_map] at this;rw[this,hk]
 obtain⟨q1,q2⟩:=SR.rv (T:=T) g2 (λi o ho=>by have:=lc hcur i o ho;rwa [Nat.zero_add] at this) (oy hpl);rw[hn2] at q1;have q3:=q2 _ _ g3;rw[hr2] at q3;have hl2:new2.length=k:=by rw[<-hn2,gY,hnl]
 have hm2:m2.length=k:=by rw[g2.len,hnl]
 have hrs:∀(i:Nat)(c:Cz),m0[i]? =some c->c= .non:=λi c hc=>by
  have hik:i<k:=by rw[<-hm0];exact(giS.1 hc).1
  obtain⟨c',h1,h2⟩:=hev.pre i c hc;have h3:c'= .non:=hsr.obj i _ c' (oo hfix hik) h1;subst h3;cases c with
  |non=>rfl
  |blk b=>simp[Cz.le] at h2
  |tok v y=>simp[Cz.le] at h2
  |fam v y=>simp[Cz.le] at h2
 refine⟨v,r2,new2,_,φ',rfl,⟨oM,by rw[<-hl2,List.take_length];exact hS⟩,⟨λi c hc=>?_,λb ⟨i,c,h1,h2⟩=>?_,g1.os,g1.tape,g1.output,g1.size,g1.keep,g1.fz⟩,q1,q3⟩;have:=hrs i c hc;subst this;have hik:i<(jQ T 0 m2).length:=by rw[kz,hm2,<-hm0];exact(giS.1 hc).1
 exact⟨_,geG hik,trivial⟩;rw[il] at h1;cases hg:m2[i]? with
 |none=>rw[hg] at h1;cases h1
 |some c0=>rw[hg,Option.map_some,ao] at h1;subst h1;exact g1.new b ⟨i,c0,hg,gJ.1 h2⟩
theorem uV{α:Type}(cur T:Nat->Nat)(i t k v:Nat)(E:α->List D)(L:List α):AO.rv cur T i (.os t k v (L.map (aJ E)))= .os t k (T i) (L.map (aJ E)):=by simp only[AO.rv,List.map_map,AO.os.injEq,true_and];refine List.map_congr_left λx _=>?_;simp only[Function.comp,aJ,List.map_map];exact List.map_congr_left λd _=>rfl
end Go.Sk
namespace Go.Sk
open Go.RowKit (Below)
section
variable{P:Program}{env:Env}{st:List AO}{dst:Option Tmp}{ty:TypeId}{pos:String}{after:Array Edge}{guard:Option (Nat×Bool)}
end
end Go.Sk
namespace Go.Sk
open Go.RowKit (Below)
section
variable{P:Program}{env:Env}{st:List AO}{dst:Option Tmp}{ty:TypeId}{pos:String}{after:Array Edge}{guard:Option (Nat×Bool)}
end
section
variable{P:Program}{env:Env}{st:List AO}
end
section
variable{P:Program}{env:Env}{st:List AO}{dst:Option Tmp}{ty:TypeId}{pos:String}{after:Array Edge}{guard:Option (Nat×Bool)}
end
section
variable{e:En}{env:Env}{st:List AO}
end
end Go.Sk
namespace Go.Sk
def sH:Option AO->Bool|some .rsv=>true|_=>false
theorem sG{o:Option AO}(h:sH o=true):o=some .rsv:=by unfold sH at h;split at h;rfl;cases h
def fixm(perm ln:List Nat)(k:Nat)(st:List AO):Bool:=(List.range k).all λi=>sH st[i]? ||(ln.contains i&&decide (perm[i]? =some i))
end Go.Sk
namespace Go.Sk
variable{P:Program}{e:En}{env:Env}{st:List AO}{K:Ko}
theorem dj{α:Type}{l:List α}{k i:Nat}{c x:α}(hl:l.length=k)(h:(l++ [c])[i]? =some x):(i<k/\l[i]? =some x)\/(i=k/\x=c):=by rw[List.getElem?_append] at h;split at h;rename_i h1;exact .inl ⟨hl▸h1,h⟩;rename_i h1;have h2:=(giS.1 h).1;simp only[List.length_singleton] at h2;have h3:i - l.length=0:=oM;rw[h3] at h;simp only[List.getElem?_cons_zero,ao] at h;exact .inr ⟨oM,h.symm⟩
theorem Inv.mv{m φ a w}(k k' t:Nat){off:Nat}{o':AO}(hi:Inv e m φ env st a w){env1:Env}(hs:Sub env1 env)(he:Env.lt k env1=true)(ht:env.get t=some (.pt k' off))(ho:st[k']? =some o')(hol:o'.lt k=true)(hl:da k (st.take k)=true)(hm:e.m.length<=k)(hk:k<=k'):
  ∃m',Inv e m' φ ((t, .pt k off)::env1) (st.take k++ [o']) a w:=by
 obtain⟨v,hv1,hv2⟩:=hi.env t _ ht;simp only[RA] at hv2;obtain⟨b,hb1,hb2⟩:=hv2;have hst:=(giS.1 ho).1;have hlen:(m.take k).length=k:=by rw[List.length_take,hi.sr.len];omega
 have hlst:(st.take k).length=k:=by rw[List.length_take];omega
 have hd:=(hi.sub hs).drop k he hl hm;have hpre:Pre (m.take k) (m.take k++ [Cz.blk b]):=λi c h=>⟨c,by rw[List.getElem?_append_left ((giS.1 h).1)];exact h,Cz.le_refl _⟩;have hat:(m.take k++ [Cz.blk b])[k]? =some (Cz.blk b):=by rw[List.getElem?_append_right oM,hlen];simp
 refine⟨m.take k++ [.blk b],⟨?_,?_,?_,hi.sz,?_⟩⟩;refine⟨by simp[hi.sr.len],λi o c h1 h2=>?_,hi.sr.lt,λi j o o1 c c' b' h1 h2 l1 l2 h3 h4 h5 h6=>?_,hi.sr.gl,λb' ⟨i,c,h,h2⟩=>?_⟩;rcases dj hlst h1 with⟨h3,h4⟩|⟨h3,h4⟩
 rcases dj hlen h2 with⟨h5,h6⟩|⟨h5,_⟩
 exact(hd.sr.obj i o c h4 h6).congr hpre (Fz.refl _ _) (λ_ _=>⟨rfl,rfl⟩);omega;rcases dj hlen h2 with⟨h5,_⟩|⟨_,h6⟩
 omega;subst h4;subst h6;exact((hi.sr.obj k' _ _ ho hb1).take hol).congr hpre (Fz.refl _ _) (λ_ _=>⟨rfl,rfl⟩);rcases dj hlst h1 with⟨q1,q2⟩|⟨q1,q2⟩<;>rcases dj hlst h2 with⟨q3,q4⟩|⟨q3,q4⟩<;>rcases dj hlen h3 with⟨q5,q6⟩|⟨q5,q6⟩<;>rcases dj hlen h4 with⟨q7,q8⟩|⟨q7,q8⟩<;>try omega
 exact hd.sr.inj i j o o1 c c' b' q2 q4 l1 l2 q6 q8 h5 h6;subst q4;subst q8;have:=hi.sr.inj i k' o _ c _ b' (bL q2).2 ho l1 l2 (bL q6).2 hb1 h5 h6;omega;subst q2;subst q6;have:=hi.sr.inj k' j _ o1 _ c' b' ho (bL q4).2 l1 l2 hb1 (bL q8).2 h5 h6;omega;rcases dj hlen h with⟨_,h4⟩|⟨_,h4⟩
 exact hi.sr.nb b' ⟨i,c,(bL h4).2,h2⟩;subst h4;exact hi.sr.nb b' ⟨k',_,hb1,h2⟩;have:=hd.ev;refine⟨this.pre.trans hpre,λb' ⟨i,c,h1,h2⟩=>?_,this.os,this.tape,this.output,this.size,this.keep,this.fz⟩;rcases dj hlen h1 with⟨_,h4⟩|⟨_,h4⟩
 exact hi.ev.new b' ⟨i,c,(bL h4).2,h2⟩;subst h4;exact hi.ev.new b' ⟨k',_,hb1,h2⟩;refine⟨λt' x hx=>?_,hi.env.gl⟩;unfold Env.get at hx;cases hb:Nat.beq t' t with
 |true=>rw[hb] at hx;simp only[cdT,ao] at hx;subst hx;have:t'=t:=nbE hb;subst this;exact⟨v,hv1,by simp only[RA];exact⟨b,hat,hb2⟩⟩
 |false=>rw[hb] at hx;obtain⟨v',g1,g2⟩:=hd.env t' x hx;exact⟨v',g1,RA.mono hpre (Fz.refl _ _) x v' g2⟩
 refine hi.df.mono λr h1 _=>⟨λ⟨i,c,h2,h3⟩=>h1 ?_,rfl⟩;rcases dj hlen h2 with⟨_,h4⟩|⟨_,h4⟩
 exact⟨i,c,(bL h4).2,h3⟩;subst h4;exact⟨k',_,hb1,h3⟩
theorem WE.mv{x:Exit}(k k' t:Nat){off:Nat}{o':AO}{env1:Env}(hs:Sub env1 env)(he:Env.lt k env1=true)(ht:env.get t=some (.pt k' off))(ho:st[k']? =some o')(hol:o'.lt k=true)(hl:da k (st.take k)=true)(hm:e.m.length<=k)(hk:Nat.ble k k'=true)(h:WE P e x K ((t, .pt k off)::env1) (st.take k++ [o'])):WE P e x K env st:=λm φ a w hi=>by
 obtain⟨m',hi'⟩:=hi.mv k k' t hs he ht ho hol hl hm (nbT hk);exact h m' φ a w hi'
theorem qd{k:Ko}{x:Code}(J:Env->List AO->Prop)(h1:WC P e x (.lp J k) env st)(h2:∀env' st',J env' st'->WE P e .normal k env' st'):WC P e x k env st:=λm φ a w hi=>by
 refine wpIn_mono (h1 m φ a w hi) ?_;intro ex a' w' hq;cases ex with
 |normal=>obtain⟨env',st',m',φ',hJ,hi'⟩:=hq;exact h2 env' st' hJ m' φ' a' w' hi'
 |_=>exact hq
end Go.Sk
namespace Go.Sk
section
variable{P:Program}{env:Env}{st:List AO}{dst:Option Tmp}{ty:TypeId}{pos:String}{after:Array Edge}{guard:Option (Nat×Bool)}
theorem d_pop{T k e:Nat}{bb:Bool}{x:Operand}{hi:Option Operand}{id ver h:Nat}{es:List (List AV)}(hT:aP P T=some (k,bb))(hx:opv env x=some (.os id ver))(hi':st[id]? =some (.os e k ver es))
  (hhi:Bnd env hi es.length h)(h2:h<=es.length):
  Does P env st ⟨dst, .slice T x none hi none,ty,pos,after,guard⟩ (.os id (ver+1)) (st.set id (.os e k (ver+1) (es.take h))):=λm φ a w hsr he=>by
 obtain⟨y,xs,g1,g2,g3,g4,g5,g6⟩:=mY hsr he hx hi';obtain⟨t,q1,q2,_⟩:=c9 hT;have hl:Bnd env none 0 0:=rfl;have key:∃y',(execOp a.eval ⟨dst, .slice T x none hi none,ty,pos,after,guard⟩).run P w= .ok (.value y') w/\w.ownsRow 0 e k y' h (xs.take (h*k))/\y'.ownBlock=y.ownBlock:=by
  rcases g3.2 with⟨rfl,hn⟩|⟨g,cap,cur,rfl,r1,r2,r3,r4,r5,r6⟩
  have h0:h=0:=oM;subst h0;refine⟨.slice none 0 0,?_,⟨sM, .inl ⟨rfl,rfl⟩⟩,rfl⟩;have:=bH (P:=P) (len:=es.length) (cap:=0) he hl hhi (Nat.le_refl _) (Nat.le_refl 0) w;rw[hn] at this;simp_all [execOp,Instr.sliceAt,run_underlying q1,Instr.slice,ax q2];refine⟨.slice (some ⟨g,0,none⟩) h cap,?_,⟨?_, .inr ⟨g,cap,cur,rfl,r1,r2,oM,r4,r5,?_⟩⟩,rfl⟩;have:=bH (P:=P) (len:=es.length) (cap:=cap) he hl hhi (Nat.zero_le _) oM w;by_cases hcl:cap=0;subst hcl;have:h=0:=oM;subst this;simp_all [execOp,Instr.sliceAt,run_underlying q1,Instr.slice,ax q2];have hcl':¬(0=cap):=λh=>hcl h.symm;simp only[Option.map_none] at this;simp[execOp,Instr.sliceAt,run_underlying q1,Instr.slice,g2,this,ax q2,hcl,hcl',Addr.add];rw[List.length_take,g3.1];exact Nat.min_eq_left (Nat.mul_le_mul_right _ h2);rw[<-r6,List.take_take,Nat.min_eq_left (Nat.mul_le_mul_right _ h2)]
 obtain⟨y',k1,k2,k3⟩:=key;have hobj:OR (m.set id (.tok (ver+1) y')) φ w (.os e k (ver+1) (es.take h)) (.tok (ver+1) y'):=by
  have hpre:Pre m (m.set id (.tok (ver+1) y')):=λi d hd=>by
   by_cases hii:i=id;subst hii;rw[g1] at hd;simp only[ao] at hd;subst hd;exact⟨_,by rw[List.getElem?_set_self (cF g1)],fm _ _ _⟩;exact⟨d,by rw[List.getElem?_set_ne (Ne.symm hii)];exact hd,Cz.le_refl d⟩
  refine⟨y',_,rfl,by rw[List.length_take,Nat.min_eq_left h2];exact k2,?_,λf hf=>g5 f (List.mem_of_mem_take hf),λb hb=>g6 b (by rw[<-k3];exact hb)⟩;rw[dk es h g5];exact bT _ (RAs.mono hpre (Fz.refl _ _) _ _ g4)
 obtain⟨j1,j2⟩:=dQ (o':= .os e k (ver+1) (es.take h)) (c':= .tok (ver+1) y') (φ':=φ) (w':=w) hsr hi' rfl g1 (fm _ _ _) rfl rfl rfl (Nat.le_refl _)
  (λb hb hn=>⟨rfl,rfl⟩) (Fz.refl _ _) hsr.lt (λb hb=> .inl (by simpa[Cz.has,k3] using hb)) hobj
 refine⟨y',w,_,φ, .inl k1,j1,j2,?_⟩;simp only[RA];exact⟨ver+1,y',by rw[List.getElem?_set_self (cF g1)],Nat.le_refl _,λ_=>rfl⟩
theorem td{T k e:Nat}{bb:Bool}{x:Operand}{hi:Option Operand}{id ver:Nat}{α:Type}(R:α->List D)(L:List α){h:Int}(hT:aP P T=some (k,bb))(hx:opv env x=some (.os id ver))(hi':st[id]? =some (.os e k ver (L.map (aJ R))))
  (hhi:BndI env hi L.length h)(hg:cm L 0 h=true):
  Does P env st ⟨dst, .slice T x none hi none,ty,pos,after,guard⟩ (.os id (ver+1)) (st.set id (.os e k (ver+1) ((L.take h.toNat).map (aJ R)))):=by
 obtain⟨_,h0,h2⟩:=ik hg;have hb:Bnd env hi L.length h.toNat:=hhi.bnd h0;have:=d_pop (dst:=dst) (ty:=ty) (pos:=pos) (after:=after) (guard:=guard) (h:=h.toNat) hT hx hi' (by simpa using hb) (by simp;omega);rw[List.map_take];exact this
end
end Go.Sk
namespace Go.Sk
open Go.RowKit (Below)
section
variable{P:Program}{e:En}{ops:Array Oper}{l rest:List Oper}{env:Env}{st:List AO}{R:Env->List AO->Prop}{K:Ko}{dst:Option Tmp}{ty:TypeId}{pos:String}{after:Array Edge}{guard:Option (Nat×Bool)}
end
end Go.Sk
namespace Go.Sk
section
variable{P:Program}{e:En}{env:Env}{st:List AO}
theorem nk(id r j ver':Nat){T k ver T':Nat}{es:List (List AV)}{cs:List AV}(hs:st[id]? =some (.os T k ver es))(hr:st[r]? =some (.row T' cs))(hj:cs[j]? =some (.os id ver))(hne:Nat.beq id r=false)(hv:ver<ver'):
  Gh e env st env ((st.set id (.os T k ver' es)).set r (.row T' (cs.set j (.os id ver')))):=λm φ a w hi=>by
 have hne':id≠r:=λh=>by simp[h] at hne
 have hsr:=hi.sr;obtain⟨c,hc⟩:∃c,m[id]? =some c:=⟨_,geG (by rw[hsr.len];exact(giS.1 hs).1)⟩;obtain⟨y,xs,rfl,q1,q2,q3,q4⟩:=hsr.obj id _ c hs hc;have hle:(Cz.tok ver y).le (.tok ver' y):= .inr ⟨ver',y,rfl,hv⟩;have hpre:Pre m (m.set id (.tok ver' y)):=λi d hd=>by
  by_cases hii:i=id;subst hii;rw[hc] at hd;simp only[ao] at hd;subst hd;exact⟨_,by rw[List.getElem?_set_self (cF hc)],hle⟩;exact⟨d,by rw[List.getElem?_set_ne (Ne.symm hii)];exact hd,Cz.le_refl d⟩
 have hobj:OR (m.set id (.tok ver' y)) φ w (.os T k ver' es) (.tok ver' y):=
  ⟨y,xs,rfl,q1,RAs.mono hpre (Fz.refl _ _) _ _ q2,q3,q4⟩
 obtain⟨k1,k2⟩:=dQ (o':= .os T k ver' es) (c':= .tok ver' y) (φ':=φ) (w':=w) hsr hs rfl hc hle rfl rfl rfl (Nat.le_refl _)
  (λb hb hn=>⟨rfl,rfl⟩) (Fz.refl _ _) hsr.lt (λb hb=> .inl hb) hobj
 have h3:=hi.go k1 k2;have hr':(st.set id (.os T k ver' es))[r]? =some (.row T' cs):=by rw[List.getElem?_set_ne hne'];exact hr
 have hat:(m.set id (Cz.tok ver' y))[id]? =some (.tok ver' y):=by rw[List.getElem?_set_self (cF hc)]
 obtain⟨cr,hcr⟩:∃c,m[r]? =some c:=⟨_,geG (by rw[hsr.len];exact(giS.1 hr).1)⟩;obtain⟨b,hb,hb0,vs,hvs,hra⟩:=hsr.obj r _ cr hr hcr;obtain⟨v,hv1,hv2⟩:=bQ hra hj;have hvy:v=y:=by simp only[RA] at hv2;obtain⟨v0,y0,e1,_,e3⟩:=hv2;rw[hc] at e1;simp only[ao,Cz.tok.injEq] at e1;obtain⟨rfl,rfl⟩:=e1;exact e3 rfl
 have h4:=h3.sr.alter (o':= .row T' (cs.set j (.os id ver'))) hr' rfl (λc' hc'=>by
  rintro⟨b',rfl,p0,vs',p1,p2⟩;have hcr':(m.set id (Cz.tok ver' y))[r]? =some cr:=by rw[List.getElem?_set_ne hne'];exact hcr
  have:cr= .blk b':=inS (hcr'.symm.trans hc');rw[hb] at this;simp only[Cz.blk.injEq] at this;subst this;rw[hvs] at p1;simp only[ao,Obj.cells.injEq,Array.mk.injEq] at p1;refine⟨b,rfl,p0,vs',by rw[hvs,p1.1],?_⟩;have hv1':vs'[j]? =some v:=by rw[<-p1.1];exact hv1
  exact iP p2 hv1' (by simp only[RA];exact⟨ver',y,hat,Nat.le_refl _,λ_=>hvy⟩))
 exact⟨_,φ,⟨h4,h3.ev,h3.env,h3.sz,h3.df⟩⟩
end
end Go.Sk
namespace Go.Sk
theorem KeyS.arr2{P:Program}{kt et:TypeId}{k1:IntKind}(hu:P.underlying kt=some (.array 2 et))(h1:P.underlying et=some (.int k1))(hs:bn P et=some 1)(hT:jK P 100 kt=some [.int k1, .int k1]):
  KeyS P kt (λx:Int×Int=> .agg ⟨[.int k1 x.1, .int k1 x.2]⟩):=
 uJ (ls:=λx:Int×Int=> [.int k1 x.1, .int k1 x.2]) (λ_=>rfl) hT (lq hu) (by rw[hu])
  (λem k w=>by
   have p1:=gP (cs:=⟨[.int k1 k.1, .int k1 k.2]⟩) (off:=0) (v:= .int k1 k.1) h1 rfl rfl w;have p2:=gP (cs:=⟨[.int k1 k.1, .int k1 k.2]⟩) (off:=1) (v:= .int k1 k.2) h1 rfl rfl w;have c1:∀n (z:Int),(Instr.checkKey em (n+1) et (.int k1 z)).run P w= .ok () w:=λn z=>by simp[Instr.checkKey,run_underlying h1]
   suffices H:∀n,(Instr.checkKey em (n+2) kt (.agg ⟨[.int k1 k.1, .int k1 k.2]⟩)).run P w= .ok () w from H 9998;intro n;rw[Instr.checkKey];simp[run_underlying hu,Result.andThen,ax hs,p1,p2,c1,Std.Legacy.Range.forIn_eq_forIn_range',Std.Legacy.Range.size,List.range'])
  (λa=>by simp[cx,LK.fits])
  (λa b=>by
   simp only[eqL,k7,Bool.and_true];by_cases e1:a.1=b.1<;>by_cases e2:a.2=b.2<;>simp[e1,e2,Prod.ext_iff])
  (λa=>by simp[Instr.sameBits])
end Go.Sk
namespace Go.Sk
abbrev AV.n(x:Int):AV:= .d (D.i .i64 x)
abbrev AV.l{α:Type}(E:α->List D)(L:List α):AV:= .d (.sl (L.map E))
theorem q{α:Sort _}{a:α}:a=a:=rfl
abbrev Zt:True:=trivial
abbrev Zs:= @Les.refl
theorem Zp{T:Nat}{l:List AV}:OLe (.row T l) (.row T l):=⟨rfl,Les.refl _⟩
theorem Zf{α β γ δ:Type}{a:α}{b:β}{c:γ}{d:δ}:a=a/\b=b/\c=c/\d=d:=⟨rfl,rfl,rfl,rfl⟩
abbrev Zw:= @Wt.none
theorem Oi{α:Type}{a b:α}(h:some a=some b):a=b:=inS h
abbrev Zd:= @lu
abbrev eM{α:Type}(E:α->List D)(L:List α):List (List AV):=L.map (aJ E)
abbrev Zl{a:AV}:Le a a:=Le.refl a
abbrev Zn:= @WL.ns
abbrev Zq:= @WL.qn
abbrev Zy:= @WL.qy
theorem Sx{env' env:Env}{t:Nat}{x:AV}(h:env.get t=some x)(hs:Sub env' env):Sub ((t,x)::env') env:=Sub.cons h (Le.refl _) hs
theorem Lo{n T k v:Nat}{α:Type}{E:α->List D}{L:List α}{l:List AO}(k':da n l=true):da n (.os T k v (L.map (aJ E))::l)=true:=ab (qv _ _ _ _ _ _) k'
theorem Ro{js:List Nat}{T k v:Nat}{α:Type}{E:α->List D}{L:List α}{l l':List AO}(h:l=l'):AO.ren js (.os T k v (L.map (aJ E)))::l= .os T k v (L.map (aJ E))::l':=aN (vx _ _ _ _ _ _) h
end Go.Sk
namespace Go.Sk
inductive NT(α:Type) where
 |lf
 |nd(k:Nat)(v:α)(l r:NT α)
def NT.get{α:Type}:NT α->Nat->Option α
 | .lf,_=>none
 | .nd k v l r,i=>bif Nat.beq i k then some v else bif Nat.blt i k then l.get i else r.get i
def NT.chk{α:Type}(f:Nat->Option α)(eq:α->α->Bool):NT α->Bool
 | .lf=>true
 | .nd k v l r=>(match f k with|some u=>eq u v|none=>false)&&(l.chk f eq&&r.chk f eq)
theorem dO{α:Type}{f:Nat->Option α}{eq:α->α->Bool}(he:∀a b,eq a b=true->a=b):∀{t:NT α},t.chk f eq=true->∀{i:Nat}{v:α},t.get i=some v->f i=some v
 | .lf,_,i,v,h=>by cases h
 | .nd k u l r,hc,i,v,h=>by
  simp only[NT.chk,Bool.and_eq_true] at hc;unfold NT.get at h;cases hb:Nat.beq i k with
  |true=>
   rw[hb] at h;obtain rfl:=nbE hb;obtain rfl:=inS h;have h1:=hc.1;cases hf:f i with
   |none=>rw[hf] at h1;cases h1
   |some w=>rw[hf] at h1;rw[he _ _ h1]
  |false=>
   rw[hb] at h;simp only[cdF] at h;cases hl:Nat.blt i k with
   |true=>rw[hl] at h;exact dO he hc.2.1 h
   |false=>rw[hl] at h;exact dO he hc.2.2 h
structure Ty where
 ag:NT Bool
 sz:NT Nat
 fo:NT (Nat×Nat×Bool)
 un:NT IntKind
def unK(P:Program)(T:Nat):Option IntKind:=match P.underlying T with
 |some (.int k)=>some k
 |_=>none
def foEq(a b:Nat×Nat×Bool):Bool:=Nat.beq a.1 b.1&&(Nat.beq a.2.1 b.2.1&&(a.2.2==b.2.2))
def Ty.ok(P:Program)(t:Ty):Bool:=
 t.ag.chk (aW P) (·==·)&&(t.sz.chk (bn P) Nat.beq&&(t.fo.chk (λi=>c7 P (i / 64) (i%64)) foEq&&t.un.chk (unK P) (λa b=>decide (a=b))))
def Ty.fo'(t:Ty)(S i:Nat):Option (Nat×Nat×Bool):=bif Nat.blt i 64 then t.fo.get (S*64+i) else none
class Tys(P:Program) where
 t:Ty
 h:t.ok P=true
section
variable{P:Program}{t:Ty}(ht:t.ok P=true)
include ht
theorem iJ{T:Nat}{b:Bool}(h:t.ag.get T=some b):aW P T=some b:=by simp only[Ty.ok,Bool.and_eq_true] at ht;exact dO (λa b h=>by simpa using h) ht.1 h
theorem ph{T:Nat}{b:Nat}(h:t.sz.get T=some b):bn P T=some b:=by simp only[Ty.ok,Bool.and_eq_true] at ht;exact dO (λa b h=>nbE h) ht.2.1 h
theorem fh{S i:Nat}{b:Nat×Nat×Bool}(h:t.fo' S i=some b):c7 P S i=some b:=by
 simp only[Ty.ok,Bool.and_eq_true] at ht;unfold Ty.fo' at h;cases hb:Nat.blt i 64 with
 |false=>rw[hb] at h;cases h
 |true=>
  rw[hb] at h;have hlt:i<64:=by have:=nbT hb;omega
  have:=dO (λa b h=>by
   simp only[foEq,Bool.and_eq_true] at h;obtain⟨h1,h2,h3⟩:=h;obtain⟨a1,a2,a3⟩:=a;obtain⟨b1,b2,b3⟩:=b;simp only at h1 h2 h3;rw[nbE h1,nbE h2,eq_of_beq h3]) ht.2.2.1 h
  have e1:(S*64+i) / 64=S:=oM;have e2:(S*64+i)%64=i:=oM;simpa only[e1,e2] using this
theorem pg{T:Nat}{k:IntKind}(h:t.un.get T=some k):P.underlying T=some (.int k):=by simp only[Ty.ok,Bool.and_eq_true] at ht;have:=dO (λa b h=>of_decide_eq_true h) ht.2.2.2 h;unfold unK at this;split at this;rename_i hu;rw[hu];rw[inS this];cases this
end
def uZ(k:IntKind)(p q:Int):BinOp->Option AV
 | .add=>some (.d (.v (.int k (k.wrap (p+q)))))
 | .sub=>some (.d (.v (.int k (k.wrap (p - q)))))
 | .mul=>some (.d (.v (.int k (k.wrap (p*q)))))
 | .lss=>some (.d (.v (.bool (decide (p<q)))))
 | .leq=>some (.d (.v (.bool (decide (p<=q)))))
 | .gtr=>some (.d (.v (.bool (decide (p>q)))))
 | .geq=>some (.d (.v (.bool (decide (p>=q)))))
 | .eql=>some (.d (.v (.bool (decide (p=q)))))
 | .neq=>some (.d (.v (.bool (!decide (p=q)))))
 |_=>none
def uS(p q:ByteArray):BinOp->Option AV
 | .eql=>some (.d (.v (.bool (p.toList==q.toList))))
 | .neq=>some (.d (.v (.bool (!(p.toList==q.toList)))))
 |_=>none
def binS(b:BinOp):AV->AV->Option AV
 | .d (.v (.int k p)), .d (.v (.int k' q))=>bif decide (k=k') then uZ k p q b else none
 | .d (.v (.string p)), .d (.v (.string q))=>uS p q b
 |_,_=>none
def uW(t:Ty)(st:List AO)(T:Nat):AV->Option AV
 | .pt id off=>match t.ag.get T with
  |some false=>match st[id]? with
   |some (.row _ cs)=>cs[off]?
   |_=>none
  |some true=>match st[id]?,t.sz.get T with
   |some (.row _ cs),some n=>bif Nat.ble (off+n) cs.length then some (.ag ((cs.drop off).take n)) else none
   |_,_=>none
  |none=>none
 | .d (.pc ps)=>match t.ag.get T with
  |some false=>match ps[0]? with
   |some p=>some (.d p)
   |none=>none
  |some true=>match t.sz.get T with
   |some n=>bif Nat.ble n ps.length then some (.d (.ag (ps.take n))) else none
   |none=>none
  |none=>none
 |_=>none
def faS(fo:Nat):AV->Option AV
 | .pt id off=>some (.pt id (off+fo))
 | .d (.pc ps)=>some (.d (.pc (ps.drop fo)))
 |_=>none
def fldS(f:Nat×Nat×Bool):AV->Option AV
 | .d (.ag ps)=>match f with
  |(fo,_,false)=>match ps[fo]? with
   |some p=>some (.d p)
   |none=>none
  |(fo,n,true)=>some (.d (.ag ((ps.drop fo).take n)))
 | .ag ps=>match f with
  |(fo,_,false)=>ps[fo]?
  |(fo,n,true)=>some (.ag ((ps.drop fo).take n))
 |_=>none
def nilS:AV->Option AV
 | .pt id off=>some (.pt id off)
 | .d (.pc ps)=>some (.d (.pc ps))
 | .fn (.func f) a b=>some (.fn (.func f) a b)
 |_=>none
def extS(i:Nat):AV->Option AV
 | .tu l=>l[i]?
 | .d (.tu l)=>match l[i]? with
  |some p=>some (.d p)
  |none=>none
 |_=>none
def notS:AV->Option AV
 | .d (.v (.bool b))=>some (.d (.v (.bool (!b))))
 |_=>none
def negS:AV->Option AV
 | .d (.v (.int k p))=>some (.d (.v (.int k (k.wrap (0 - p)))))
 |_=>none
def u7(k:IntKind):AV->Option AV
 | .d (.v (.int _ p))=>some (.d (.v (.int k (k.wrap p))))
 |_=>none
def tk:AV->Option Bool
 | .d (.v (.bool b))=>some b
 |_=>none
theorem o8{x:AV}{b:Bool}(h:tk x=some b):x= .d (.v (.bool b)):=by unfold tk at h;split at h;rw[inS h];cases h
def jG(t:Ty)(env:Env)(st:List AO):Op->Option AV
 | .move x=>opv env x
 | .assign x=>opv env x
 | .pick c x y=>match(opv env c).bind tk with
  |some true=>opv env x
  |some false=>opv env y
  |none=>none
 | .load T x=>(opv env x).bind (uW t st T)
 | .fieldAddr S x i=>match t.fo' S i with
  |some (fo,_+1,_)=>(opv env x).bind (faS fo)
  |_=>none
 | .field S x i=>match t.fo' S i with
  |some f=>(opv env x).bind (fldS f)
  |none=>none
 | .nilCheck x=>(opv env x).bind nilS
 | .extract x i=>(opv env x).bind (extS i)
 | .unOp .not _ x=>(opv env x).bind notS
 | .unOp .neg _ x=>(opv env x).bind negS
 | .binOp b _ x y _=>match opv env x,opv env y with
  |some u1,some v1=>binS b u1 v1
  |_,_=>none
 | .convert S T x=>match t.un.get S,t.un.get T with
  |some _,some k=>(opv env x).bind (u7 k)
  |_,_=>none
 | .makeFunc f first caps=>match c4 env first.toList,c4 env caps.toList with
  |some a,some b=>some (.fn f a b)
  |_,_=>none
 |_=>none
theorem gT{α β:Type}{o:Option α}{f:α->Option β}{r:β}(h:o.bind f=some r):∃x,o=some x/\f x=some r:=by
 cases o with
 |none=>cases h
 |some x=>exact⟨x,rfl,h⟩
section
variable{P:Program}{t:Ty}(ht:t.ok P=true){env:Env}{st:List AO}{dst:Option Tmp}{ty:TypeId}{pos:String}{after:Array Edge}{guard:Option (Nat×Bool)}
include ht
theorem oc{op:Op}{r:AV}(h:jG t env st op=some r):Yields P env st ⟨dst,op,ty,pos,after,guard⟩ r:=by
 cases op with
 |move x=>exact vh h
 |assign x=>exact rJ h
 |pick c x y=>dsimp only[jG] at h;split at h;rename_i hc;obtain⟨z,h1,h2⟩:=gT hc;rw[o8 h2] at h1;exact rD h1 h;rename_i hc;obtain⟨z,h1,h2⟩:=gT hc;rw[o8 h2] at h1;exact rE h1 h;cases h
 |load T x=>
  obtain⟨z,h1,h2⟩:=gT h;unfold uW at h2;split at h2;split at h2;rename_i ha;split at h2;rename_i hs;exact vi h1 hs (iJ ht ha) h2;cases h2;rename_i ha;split at h2;rename_i hs hn;cases hb:Nat.ble (_+_) (List.length _) with
  |false=>rw[hb] at h2;cases h2
  |true=>rw[hb] at h2;obtain rfl:=inS h2;exact tM h1 hs (iJ ht ha) (ph ht hn) hb
  cases h2;cases h2;split at h2;rename_i ha;split at h2;rename_i hp;obtain rfl:=inS h2;exact tK h1 (iJ ht ha) hp;cases h2;rename_i ha;split at h2;rename_i hn;cases hb:Nat.ble _ (List.length _) with
  |false=>rw[hb] at h2;cases h2
  |true=>rw[hb] at h2;obtain rfl:=inS h2;exact rF h1 (iJ ht ha) (ph ht hn) hb
  cases h2;cases h2;cases h2
 |fieldAddr S x i=>dsimp only[jG] at h;split at h;rename_i hf;obtain⟨z,h1,h2⟩:=gT h;unfold faS at h2;split at h2;obtain rfl:=inS h2;exact nV (fh ht hf) h1;obtain rfl:=inS h2;exact mO (fh ht hf) h1;cases h2;cases h
 |field S x i=>dsimp only[jG] at h;split at h;rename_i hf;obtain⟨z,h1,h2⟩:=gT h;unfold fldS at h2;split at h2;split at h2;split at h2;rename_i hp;obtain rfl:=inS h2;exact tN (fh ht hf) h1 hp;cases h2;obtain rfl:=inS h2;exact rI (fh ht hf) h1;split at h2;exact rH (fh ht hf) h1 h2;obtain rfl:=inS h2;exact qU (fh ht hf) h1;cases h2;cases h
 |nilCheck x=>obtain⟨z,h1,h2⟩:=gT h;unfold nilS at h2;split at h2;obtain rfl:=inS h2;exact nN h1;obtain rfl:=inS h2;exact nP h1;obtain rfl:=inS h2;exact nO h1;cases h2
 |extract x i=>obtain⟨z,h1,h2⟩:=gT h;unfold extS at h2;split at h2;exact qV h1 h2;split at h2;rename_i hp;obtain rfl:=inS h2;exact pB h1 hp;cases h2;cases h2
 |unOp u T x=>
  cases u with
  |not=>obtain⟨z,h1,h2⟩:=gT h;unfold notS at h2;split at h2;obtain rfl:=inS h2;exact y_not h1;cases h2
  |neg=>obtain⟨z,h1,h2⟩:=gT h;unfold negS at h2;split at h2;obtain rfl:=inS h2;exact y_neg h1 rfl;cases h2
  |_=>cases h
 |binOp b T x y T'=>
  dsimp only[jG] at h;split at h;rename_i hu hv;unfold binS at h;split at h;rename_i k p k' q;cases hk:decide (k=k') with
  |false=>rw[hk] at h;cases h
  |true=>
   rw[hk] at h;have hk:=of_decide_eq_true hk;subst hk;simp only[cdT] at h;cases b<;>simp only[uZ] at h<;>first|cases h|(obtain rfl:=inS h)
   exact ga hu hv rfl;exact y_sub hu hv rfl;exact y_mul hu hv rfl;exact y_eql hu hv;exact y_neq hu hv;exact y_lss hu hv;exact y_leq hu hv;exact y_gtr hu hv;exact y_geq hu hv
  cases b<;>simp only[uS] at h<;>first|cases h|(obtain rfl:=inS h)
  exact y_eqs hu hv;exact y_nes hu hv;cases h;cases h
 |convert S T x=>dsimp only[jG] at h;split at h;rename_i hS hT;obtain⟨z,h1,h2⟩:=gT h;unfold u7 at h2;split at h2;obtain rfl:=inS h2;exact vl (pg ht hS) (pg ht hT) h1 rfl;cases h2;cases h
 |makeFunc f a b=>dsimp only[jG] at h;split at h;rename_i h1 h2;obtain rfl:=inS h;exact py h1 h2;cases h
 |_=>cases h
end
def n6(ops:Array Oper)(env:Env):Option (Nat×Bool)->Option Bool
 |none=>some true
 |some (j,b)=>match(ops[j]?).bind (·.dst) with
  |some t=>match env.get t with
   |some (.d (.v (.bool x)))=>some (x==b)
   |some (.d (.v (.tuple _)))=>some false
   |_=>none
  |none=>none
def jH(t:Ty)(n:Nat)(ops:Array Oper)(st:List AO)(env:Env)(o:Oper):Option Env:=
 match n6 ops env o.guard with
 |some true=>match o.dst with
  |some d=>bif Nat.ble (d+1) n then(match jG t env st o.op with
   |some r=>some ((d,r)::env)
   |none=>none) else none
  |none=>none
 |some false=>match o.dst with
  |some d=>bif Nat.ble (d+1) n then some ((d, .d (.v undef))::env) else none
  |none=>some env
 |none=>none
def im(t:Ty)(n:Nat)(ops:Array Oper)(st:List AO):Nat->List Oper->Env->Option (List Oper×Env)
 |0,l,env=>some (l,env)
 |k+1,o::l,env=>match jH t n ops st env o with
  |some env'=>im t n ops st k l env'
  |none=>none
 |_+1,[],_=>none
section
variable{P:Program}{t:Ty}(ht:t.ok P=true){e:En}{ops:Array Oper}{st:List AO}{R:Env->List AO->Prop}{n:Nat}{RQ:Env->Prop}
omit ht in
theorem kr{env:Env}{o:Oper}(h:n6 ops env o.guard=some true):Wt ops env o true:=by
 unfold n6 at h;split at h;rename_i hg;exact Wt.none hg;rename_i j b hg;split at h;rename_i hj;split at h;rename_i x hx;have:x=b:=by simpa using h
 subst this;exact Wt.yes hg hj hx;cases h;cases h;cases h
omit ht in
theorem eG{env:Env}{o:Oper}(h:n6 ops env o.guard=some false):Wt ops env o false:=by unfold n6 at h;split at h;cases h;rename_i j b hg;split at h;rename_i hj;split at h;rename_i x hx;exact Wt.no hg hj hx (inS h);rename_i x hx;intro m φ w a he;simp only[Region.wanted,hg,gW he hj hx];rfl;cases h;cases h
include ht
theorem ii{env env':Env}{o:Oper}{l:List Oper}(h:jH t e.n ops st env o=some env')(k:WL P e ops l env' st R):WL P e ops (o::l) env st R:=by
 unfold jH at h;split at h;rename_i hw;split at h;rename_i d hd;cases hb:Nat.ble (d+1) e.n with
 |false=>rw[hb] at h;cases h
 |true=>rw[hb] at h;simp only[cdT] at h;split at h;rename_i r hr;obtain rfl:=inS h;obtain⟨od,oop,oty,opos,oaf,og⟩:=o;exact WL.q (oc ht hr) (kr hw) hd hb k;cases h
 cases h;rename_i hw;split at h;rename_i d hd;cases hb:Nat.ble (d+1) e.n with
 |false=>rw[hb] at h;cases h
 |true=>rw[hb] at h;obtain rfl:=inS h;exact WL.skip (eG hw) hd hb k
 rename_i hd;obtain rfl:=inS h;exact WL.skip0 (eG hw) hd k;cases h
theorem rW{env env':Env}{o:Oper}{l:List Oper}(h:jH t n ops st env o=some env')(k:WQ P n ops l env' st RQ):WQ P n ops (o::l) env st RQ:=by
 unfold jH at h;split at h;rename_i hw;split at h;rename_i d hd;cases hb:Nat.ble (d+1) n with
 |false=>rw[hb] at h;cases h
 |true=>rw[hb] at h;simp only[cdT] at h;split at h;rename_i r hr;obtain rfl:=inS h;obtain⟨od,oop,oty,opos,oaf,og⟩:=o;exact WQ.q (fL (oc ht hr)) (kr hw) hd hb k;cases h
 cases h;rename_i hw;split at h;rename_i d hd;cases hb:Nat.ble (d+1) n with
 |false=>rw[hb] at h;cases h
 |true=>rw[hb] at h;obtain rfl:=inS h;exact WQ.skip (eG hw) hd hb k
 rename_i hd;obtain rfl:=inS h;exact WQ.skip0 (eG hw) hd k;cases h
theorem qk:∀{k:Nat}{l l':List Oper}{env env':Env},im t e.n ops st k l env=some (l',env')->WL P e ops l' env' st R->WL P e ops l env st R
 |0,l,l',env,env',h,k=>by obtain⟨rfl,rfl⟩:=Prod.mk.inj (inS h);exact k
 |j+1,[],l',env,env',h,k=>by cases h
 |j+1,o::l,l',env,env',h,k=>by
  unfold im at h;split at h;rename_i hs;exact ii ht hs (qk h k);cases h
theorem qj:∀{k:Nat}{l l':List Oper}{env env':Env},im t n ops st k l env=some (l',env')->WQ P n ops l' env' st RQ->WQ P n ops l env st RQ
 |0,l,l',env,env',h,k=>by obtain⟨rfl,rfl⟩:=Prod.mk.inj (inS h);exact k
 |j+1,[],l',env,env',h,k=>by cases h
 |j+1,o::l,l',env,env',h,k=>by
  unfold im at h;split at h;rename_i hs;exact rW ht hs (qj h k);cases h
end
theorem Rl{P:Program}[T:Tys P]{e:En}{ops:Array Oper}{st:List AO}{R:Env->List AO->Prop}{l l':List Oper}{env env':Env}(k:Nat)(h:im T.t e.n ops st k l env=some (l',env'))(hw:WL P e ops l' env' st R):WL P e ops l env st R:=qk T.h h hw
theorem Rq{P:Program}[T:Tys P]{n:Nat}{ops:Array Oper}{st:List AO}{R:Env->Prop}{l l':List Oper}{env env':Env}(k:Nat)(h:im T.t n ops st k l env=some (l',env'))(hw:WQ P n ops l' env' st R):WQ P n ops l env st R:=qj T.h h hw
inductive SS where
 |c(c:Code)(k:Ko)
 |x(x:Exit)(k:Ko)
 |l(ops:Array Oper)(l:List Oper)(k:Ko)
@[reducible] def SS.den(P:Program)(e:En)(env:Env)(st:List AO):SS->Prop
 | .c cd k=>WC P e cd k env st
 | .x ex k=>WE P e ex k env st
 | .l ops ol k=>WL P e ops ol env st (λenv' st'=>WE P e .normal k env' st')
def ctlC(k:Ko):Code->Option SS
 | .seq x y=>some (.c x (.seq y k))
 | .skip=>some (.x .normal k)
 | .ret=>some (.x .ret k)
 | .exit i=>some (.x (.exit i) k)
 | .block i x=>some (.c x (.blk i k))
 | .region _ a false=>bif cv a.toList then some (.l a a.toList k) else none
 |_=>none
def ctlX:Exit->Ko->Option SS
 | .normal, .seq c k=>some (.c c k)
 | .ret, .seq _ k=>some (.x .ret k)
 | .exit i, .seq _ k=>some (.x (.exit i) k)
 | .normal, .blk _ k=>some (.x .normal k)
 | .ret, .blk _ k=>some (.x .ret k)
 | .exit i, .blk j k=>bif Nat.beq i j then some (.x .normal k) else some (.x (.exit i) k)
 | .ret, .lp _ k=>some (.x .ret k)
 | .exit i, .lp _ k=>some (.x (.exit i) k)
 |_,_=>none
def oe(t:Ty)(n:Nat)(st:List AO)(env:Env):SS->Option (SS×Env)
 | .c cd k=>match ctlC k cd with
  |some s=>some (s,env)
  |none=>none
 | .x ex k=>match ctlX ex k with
  |some s=>some (s,env)
  |none=>none
 | .l _ [] k=>some (.x .normal k,env)
 | .l ops (o::l) k=>match jH t n ops st env o with
  |some env'=>some (.l ops l k,env')
  |none=>none
def jU(t:Ty)(n:Nat)(st:List AO):Nat->SS->Env->Option (SS×Env)
 |0,s,env=>some (s,env)
 |k+1,s,env=>match oe t n st env s with
  |some (s',env')=>jU t n st k s' env'
  |none=>none
section
variable{P:Program}{t:Ty}(ht:t.ok P=true){e:En}{st:List AO}
include ht
theorem rV{env env':Env}{s s':SS}(h:oe t e.n st env s=some (s',env'))(k:s'.den P e env' st):s.den P e env st:=by
 cases s with
 |c c κ=>
  dsimp only[oe] at h;split at h;rename_i s1 hc;obtain⟨rfl,rfl⟩:=Prod.mk.inj (inS h);cases c with
  |seq x y=>obtain rfl:=inS hc;exact vn k
  |skip=>obtain rfl:=inS hc;exact tO k
  |ret=>obtain rfl:=inS hc;exact vp k
  |exit i=>obtain rfl:=inS hc;exact tP k
  |block i x=>obtain rfl:=inS hc;exact rP k
  |region i a b=>
   cases b with
   |true=>cases hc
   |false=>
    dsimp only[ctlC] at hc;cases hb:cv a.toList with
    |false=>rw[hb] at hc;cases hc
    |true=>rw[hb] at hc;obtain rfl:=inS hc;exact qY (l:=a.toList) k hb
  |_=>cases hc
  cases h
 |x x κ=>
  dsimp only[oe] at h;split at h;rename_i s1 hc;obtain⟨rfl,rfl⟩:=Prod.mk.inj (inS h);unfold ctlX at hc;split at hc;obtain rfl:=inS hc;exact rM k;obtain rfl:=inS hc;exact pE k;obtain rfl:=inS hc;exact nX k;obtain rfl:=inS hc;exact vm k;obtain rfl:=inS hc;exact pH k;rename_i i j κ';cases hb:Nat.beq i j with
  |true=>rw[hb] at hc;obtain rfl:=inS hc;obtain rfl:=nbE hb;exact pI k
  |false=>rw[hb] at hc;obtain rfl:=inS hc;exact n5 hb k
  obtain rfl:=inS hc;exact qX k;obtain rfl:=inS hc;exact pG k;cases hc;cases h
 |l ops l κ=>
  cases l with
  |nil=>obtain⟨rfl,rfl⟩:=Prod.mk.inj (inS h);exact WL.nil k
  |cons o l=>dsimp only[oe] at h;split at h;rename_i env1 hs;obtain⟨rfl,rfl⟩:=Prod.mk.inj (inS h);exact ii ht hs k;cases h
theorem dU:∀{k:Nat}{s s':SS}{env env':Env},jU t e.n st k s env=some (s',env')->s'.den P e env' st->s.den P e env st
 |0,s,s',env,env',h,k=>by obtain⟨rfl,rfl⟩:=Prod.mk.inj (inS h);exact k
 |j+1,s,s',env,env',h,k=>by
  unfold jU at h;split at h;rename_i hs;exact rV ht hs (dU h k);cases h
end
section
variable{P:Program}[T:Tys P]{e:En}{st:List AO}{env env':Env}{κ κ':Ko}
theorem Rcc{c:Code}{c':Code}(k:Nat)(h:jU T.t e.n st k (.c c κ) env=some ((.c c' κ'),env'))(hw:WC P e c' κ' env' st):WC P e c κ env st:=dU (s:=(.c c κ)) T.h h hw
theorem Rcx{c:Code}{x':Exit}(k:Nat)(h:jU T.t e.n st k (.c c κ) env=some ((.x x' κ'),env'))(hw:WE P e x' κ' env' st):WC P e c κ env st:=dU (s:=(.c c κ)) T.h h hw
theorem Rcl{c:Code}{ops':Array Oper}{l':List Oper}(k:Nat)(h:jU T.t e.n st k (.c c κ) env=some ((.l ops' l' κ'),env'))(hw:WL P e ops' l' env' st λenv' st'=>WE P e .normal κ' env' st'):WC P e c κ env st:=dU (s:=(.c c κ)) T.h h hw
theorem Rxc{x:Exit}{c':Code}(k:Nat)(h:jU T.t e.n st k (.x x κ) env=some ((.c c' κ'),env'))(hw:WC P e c' κ' env' st):WE P e x κ env st:=dU (s:=(.x x κ)) T.h h hw
theorem Rxx{x:Exit}{x':Exit}(k:Nat)(h:jU T.t e.n st k (.x x κ) env=some ((.x x' κ'),env'))(hw:WE P e x' κ' env' st):WE P e x κ env st:=dU (s:=(.x x κ)) T.h h hw
theorem Rxl{x:Exit}{ops':Array Oper}{l':List Oper}(k:Nat)(h:jU T.t e.n st k (.x x κ) env=some ((.l ops' l' κ'),env'))(hw:WL P e ops' l' env' st λenv' st'=>WE P e .normal κ' env' st'):WE P e x κ env st:=dU (s:=(.x x κ)) T.h h hw
theorem Rlc{ops:Array Oper}{l:List Oper}{c':Code}(k:Nat)(h:jU T.t e.n st k (.l ops l κ) env=some ((.c c' κ'),env'))(hw:WC P e c' κ' env' st):WL P e ops l env st (λenv' st'=>WE P e .normal κ env' st'):=dU (s:=(.l ops l κ)) T.h h hw
theorem Rlx{ops:Array Oper}{l:List Oper}{x':Exit}(k:Nat)(h:jU T.t e.n st k (.l ops l κ) env=some ((.x x' κ'),env'))(hw:WE P e x' κ' env' st):WL P e ops l env st (λenv' st'=>WE P e .normal κ env' st'):=dU (s:=(.l ops l κ)) T.h h hw
theorem Rll{ops:Array Oper}{l:List Oper}{ops':Array Oper}{l':List Oper}(k:Nat)(h:jU T.t e.n st k (.l ops l κ) env=some ((.l ops' l' κ'),env'))(hw:WL P e ops' l' env' st λenv' st'=>WE P e .normal κ' env' st'):WL P e ops l env st (λenv' st'=>WE P e .normal κ env' st'):=dU (s:=(.l ops l κ)) T.h h hw
end
end Go.Sk
namespace Go.Sk
open Go.RowKit (Below)
open Go.MapKept (IsKey sameNow_of_keys run_checkKey run_findKey run_keyThatStays)
def ixL{κ:Type}[DecidableEq κ]:List κ->κ->Option Nat
 |[],_=>none
 |a::l,k=>if a=k then some 0 else(ixL l k).map (·+1)
structure KeyX(P:Program){κ:Type}[DecidableEq κ](kt:TypeId)(kf:κ->Value):Prop where
 chk:∀em k w,(Instr.checkKey em 10000 kt (kf k)).run P w= .ok () w
 find:∀(k:κ)(L:List κ)(l:List MapEntry)(w:World),l.map (·.key)=L.map kf->(Instr.findKey kt (kf k) l).run P w= .ok ((ixL L k).bind λj=>(l[j]?).map λe=>(j,e.val)) w
 stays:∀k w,(Instr.keyThatStays (kf k) (kf k)).run P w= .ok (kf k) w
section
variable{κ:Type}[DecidableEq κ]{P:Program}{d:TypeDesc}{kt:TypeId}{kf:κ->Value}
end
inductive KDk where
 |i(k:IntKind)
 |p(k1 k2:IntKind)
def rgX(P:Program)(env:Env)(st:List AO)(T:TypeId)(x:Operand):Option (AV×List AO):=
 match P.underlying T,opv env x with
 |some (.map _ _),some (.mp id)=>(match st[id]? with
  |some (.mb _ _ cl)=>some (.pt st.length 0,st++ [.it (.mp id) cl [] cl])
  |_=>none)
 |some (.map _ _),some (.d (.v (.map none)))=>some (.pt st.length 0,st++ [.it (.d (.v (.map none))) 0 [] 0])
 |_,_=>none
def lj(es:List (Value×Nat))(s:Nat):Option Nat:=match es with
 |[]=>none
 |p::l=>bif Nat.beq p.2 s then some 0 else(match lj l s with
  |some j=>some (j+1)
  |none=>none)
def enX(env:Env)(st:List AO)(x:Operand):Option AV:=match opv env x with
 |some (.pt iid 0)=>(match st[iid]? with
  |some (.it (.mp id) _ seen stp)=>(match seen.getLast?,st[id]? with
   |some s,some (.mb es xs cl)=>bif Nat.beq cl stp then(match lj es s with
    |some j=>(match es[j]?,xs[j]? with
     |some p,some r=>some (.tu [eO p.1,r])
     |_,_=>none)
    |none=>none) else none
   |_,_=>none)
  |_=>none)
 |_=>none
def kD(iid id since stp cl:Nat)(seen:List Nat)(es:List (Value×Nat))(xs:List AV)(st:List AO):List (AV×List AO):=
 (bif es.all (λp=>seen.contains p.2|| !(Nat.blt p.2 since)) then[(.tu [.d (.v (.bool false))],st)] else[])++
 (List.zip es xs).filterMap λp=>bif seen.contains p.1.2 then none else some (.tu [.d (.v (.bool true)),eO p.1.1,p.2],st.set iid (.it (.mp id) since (seen++ [p.1.2]) cl))
section
variable{P:Program}{env:Env}{st:List AO}{dst:Option Tmp}{ty:TypeId}{pos:String}{after:Array Edge}{guard:Option (Nat×Bool)}
end
end Go.Sk
namespace Go.Sk
open Go.RowKit (Below)
section
variable{P:Program}{env:Env}{st:List AO}{dst:Option Tmp}{ty:TypeId}{pos:String}{after:Array Edge}{guard:Option (Nat×Bool)}
theorem vw{T:TypeId}{x:Operand}{r:AV}{st':List AO}(h:rgX P env st T x=some (r,st')):Does P env st ⟨dst, .range T x,ty,pos,after,guard⟩ r st':=λm φ a w hs he=>by
 have hnew:∀b,(Cz.blk w.heap.size).has b->w.heap.size<=b:=λb hb=>by simp only[Cz.has] at hb;omega
 unfold rgX at h;split at h;rename_i kt et id hT hx;split at h;rename_i es xs cl hst;simp only[ao,Prod.mk.injEq] at h;obtain⟨rfl,rfl⟩:=h;have hra:=bc he hx;obtain⟨b,h1,h2⟩:=d7 he hx;obtain⟨b',hbb,h0,l,g1,g2,g3⟩:=hs.obj id _ _ hst h1;simp only[Cz.blk.injEq] at hbb;subst hbb;have hF:=Fz.alloc hs (.mapIter (some b) cl #[] cl);have hk:∀c,c<w.heap.size->(w.alloc (.mapIter (some b) cl #[] cl)).heap[c]? =w.heap[c]? :=λc hc=>bx hc;rw[h2] at hra;refine⟨.pointer (some ⟨w.heap.size,0,none⟩),w.alloc (.mapIter (some b) cl #[] cl),m++ [.blk w.heap.size],φ, .inl ?_,Ev.push hs hF hk sM rfl rfl rfl hnew,SR.push hs hF hk sM ⟨_,rfl,hs.lt _ (Nat.le_refl _),some b,heap_alloc_new w _,RA.mono (Pre.append m _) hF _ _ hra⟩ hnew,?_⟩;simp[execOp,h2,Instr.range,run_underlying hT,MapKept.run_getObj_map g1];simp only[RA];exact⟨_,by rw[<-hs.len];simp,rfl⟩;cases h;rename_i kt et hT hx;simp only[ao,Prod.mk.injEq] at h;obtain⟨rfl,rfl⟩:=h;have h2:=aQ he hx;have hF:=Fz.alloc hs (.mapIter none 0 #[] 0);have hk:∀c,c<w.heap.size->(w.alloc (.mapIter none 0 #[] 0)).heap[c]? =w.heap[c]? :=λc hc=>bx hc;refine⟨.pointer (some ⟨w.heap.size,0,none⟩),w.alloc (.mapIter none 0 #[] 0),m++ [.blk w.heap.size],φ, .inl ?_,Ev.push hs hF hk sM rfl rfl rfl hnew,SR.push hs hF hk sM ⟨_,rfl,hs.lt _ (Nat.le_refl _),none,heap_alloc_new w _,RAv⟩ hnew,?_⟩;simp[execOp,h2,Instr.range,run_underlying hT];simp only[RA];exact⟨_,by rw[<-hs.len];simp,rfl⟩;cases h
theorem li{s:Nat}:∀{es:List (Value×Nat)}{l:List MapEntry}{j:Nat},l.map (λe=>(e.key,e.born))=es->lj es s=some j->∃e,l[j]? =some e/\l.find? (·.born==s)=some e
 |[],l,j,_,h=>by cases h
 |p::es,[],j,hl,h=>by simp at hl
 |p::es,e::l,j,hl,h=>by
  simp only[List.map_cons,List.cons.injEq] at hl;obtain⟨rfl,hl⟩:=hl;unfold lj at h;cases hb:Nat.beq e.born s with
  |true=>rw[hb] at h;obtain rfl:=inS h;refine⟨e,rfl,?_⟩;have:=nbE hb;rw[List.find?_cons_of_pos (by simp[this])]
  |false=>rw[hb,cdF] at h;split at h;rename_i i hi;obtain rfl:=inS h;obtain⟨e',h1,h2⟩:=li hl hi;refine⟨e',by simpa using h1,?_⟩;rw[List.find?_cons_of_neg (by intro hh;rw[beq_iff_eq] at hh;rw[hh] at hb;simp at hb)];exact h2;cases h
theorem vY{x:Operand}{r:AV}(h:enX env st x=some r):Yields P env st ⟨dst, .entry x,ty,pos,after,guard⟩ r:=λm φ a w hs he=>by
 unfold enX at h;split at h;rename_i iid hx;split at h;rename_i id since seen stp hit;split at h;rename_i s es xs cl hseen hmb;cases hc:Nat.beq cl stp with
 |false=>rw[hc] at h;cases h
 |true=>
  rw[hc,cdT] at h;have hc:=nbE hc;subst hc;split at h;rename_i j hj;split at h;rename_i p r0 hp hr0;obtain rfl:=inS h;obtain⟨b,g1,g2⟩:=eZ he hx;obtain⟨b',hbb,h0,sb,g3,g4⟩:=hs.obj iid _ _ hit g1;simp only[Cz.blk.injEq] at hbb;subst hbb;simp only[RA] at g4;obtain⟨mb,g5,g6⟩:=g4;simp only[Value.map.injEq] at g6;subst g6;obtain⟨b2,hb2,q0,l,q1,q2,q3⟩:=hs.obj id _ _ hmb g5;simp only[Cz.blk.injEq] at hb2;subst hb2;obtain⟨e,k1,k2⟩:=li q2 hj;have hpe:p=(e.key,e.born):=by
   have:(l.map (λe=>(e.key,e.born)))[j]? =some (e.key,e.born):=by rw[List.getElem?_map,k1];rfl
   rw[q2,hp] at this;exact inS this
  subst hpe;obtain⟨v,v1,v2⟩:=bQ q3 hr0;rw[List.getElem?_map,k1,Option.map_some,ao] at v1;subst v1;refine⟨.tuple #[e.key,e.val],by simp only[RA];exact⟨_,rfl,aC (lE _) (aC v2 bB)⟩,λw' hb=>?_⟩;have e1:w'.heap[b]? =some (.mapIter (some mb) since ⟨seen⟩ cl):=by rw[hb.block b (bK g3)];exact g3
  have e2:w'.heap[mb]? =some (.map ⟨l⟩ cl):=by rw[hb.block mb (bK q1)];exact q1
  have f1:(getObj b).run P w'= .ok (.mapIter (some mb) since ⟨seen⟩ cl) w':=by simp[getObj,Sem.run,e1]
  have f2:(getObj mb).run P w'= .ok (.map ⟨l⟩ cl) w':=by simp[getObj,Sem.run,e2]
  have f3:(⟨seen⟩:Array Nat).back? =some s:=by rw[<-hseen];simp[Array.back?,List.getLast?_eq_getElem?]
  have f4:(⟨l⟩:Array MapEntry).find? (·.born==s)=some e:=by rw[<-Array.find?_toList];exact k2
  simp[execOp,g2,Instr.entry,f1,f2,f3,f4];cases h;cases h
 cases h;cases h;cases h
def DoesN(P:Program)(env:Env)(st:List AO)(o:Oper)(outs:List (AV×List AO)):Prop:=
 ∀m φ a w,SR m φ st w->EnvOk m φ w env a->∃v w' m' φ' p,p∈outs/\(execOp a.eval o).run P w= .ok (.value v) w'/\Ev m φ w m' φ' w'/\SR m' φ' p.2 w'/\RA m' φ' w' p.1 v
theorem SR.drew{m:List Cz}{φ:Nat->Nat}{w:World}(hs:SR m φ st w):SR m φ st w.drew:=hs.of_keep (λ_ _=>⟨rfl,rfl⟩) (λ_ _ _ h1 h2=>⟨h1,h2⟩) hs.lt
theorem itSet{m φ w}{iid b since stp stp':Nat}{seen seen':List Nat}{src:AV}{sb:Option Nat}(hs:SR m φ st w)(hi:st[iid]? =some (.it src since seen stp))(hb:m[iid]? =some (.blk b))(hsrc:RA m φ w src (.map sb)):
  Ev m φ w m φ { w with heap:=w.heap.setIfInBounds b (.mapIter sb since ⟨seen'⟩ stp') }/\SR m φ (st.set iid (.it src since seen' stp')) { w with heap:=w.heap.setIfInBounds b (.mapIter sb since ⟨seen'⟩ stp') }:=by
 obtain⟨b',hbb,h0,sb0,h1,h2⟩:=hs.obj iid _ _ hi hb;simp only[Cz.blk.injEq] at hbb;subst hbb;have hlt:=bK h1;have hne:∀b2,b2≠b->(w.heap.setIfInBounds b (.mapIter sb since ⟨seen'⟩ stp'))[b2]? =w.heap[b2]? :=λb2 hn=>by simp[Ne.symm hn]
 have hF:Fz φ w φ { w with heap:=w.heap.setIfInBounds b (.mapIter sb since ⟨seen'⟩ stp') }:=λb2 off c g1 g2=>⟨g1,by
  have hn:b2≠b:=λe=>by subst e;omega
  rw[cu (w':={ w with heap:=w.heap.setIfInBounds b (.mapIter sb since ⟨seen'⟩ stp') }) (hne b2 hn)];exact g2⟩
 have hset:m.set iid (.blk b)=m:=by apply List.ext_getElem?;intro i;by_cases hii:iid=i;subst hii;rw[List.getElem?_set_self (giS.1 hb).1,hb];rw[List.getElem?_set_ne hii]
 have:=dQ (w':={ w with heap:=w.heap.setIfInBounds b (.mapIter sb since ⟨seen'⟩ stp') }) (φ':=φ) (o':= .it src since seen' stp') (c':= .blk b) hs hi rfl hb rfl rfl rfl rfl sM (λb2 hb2 hn=>⟨hne b2 (λe=>hn (by rw[e];rfl)),rfl⟩) hF (λb2 hb2=>hs.lt b2 (by simpa using hb2)) (λb2 hb2=> .inl hb2)
  (by rw[hset];exact⟨b,rfl,h0,sb,by simp[hlt],RA.mono (Pre.refl m) hF _ _ hsrc⟩)
 rwa [hset] at this
theorem pN{w:World}{n:Nat}(hn:0<n):∃j w1,j<n/\(w1=w\/w1=w.drew)/\(choose (.mapNext n)).run P w= .ok j w1:=by
 by_cases hf:n<=1;exact⟨0,w,oM, .inl rfl,by simp[choose,Sem.run,Question.forced,hf]⟩;exact⟨_,w.drew,Nat.mod_lt _ oM, .inr rfl,by
  simp only[choose,Sem.run,Question.forced,decide_eq_true_eq,hf,if_false,Question.cut];rfl⟩
theorem nx_ok{x:Operand}{iid id since stp cl:Nat}{seen:List Nat}{es:List (Value×Nat)}{xs:List AV}(hx:opv env x=some (.pt iid 0))(hit:st[iid]? =some (.it (.mp id) since seen stp))(hmb:st[id]? =some (.mb es xs cl))
  (ht:(!seen.isEmpty&&(!es.isEmpty&&es.all λp=>Nat.ble stp p.2))=false):DoesN P env st ⟨dst, .next x false,ty,pos,after,guard⟩ (kD iid id since stp cl seen es xs st):=λm φ a w hs he=>by
 obtain⟨b,g1,g2⟩:=eZ he hx;obtain⟨b',hbb,h0,sb,g3,g4⟩:=hs.obj iid _ _ hit g1;simp only[Cz.blk.injEq] at hbb;subst hbb;have g4':=g4;simp only[RA] at g4;obtain⟨mb,g5,g6⟩:=g4;simp only[Value.map.injEq] at g6;subst g6;obtain⟨b2,hb2,q0,l,q1,q2,q3⟩:=hs.obj id _ _ hmb g5;simp only[Cz.blk.injEq] at hb2;subst hb2;have f1:(getObj b).run P w= .ok (.mapIter (some mb) since ⟨seen⟩ stp) w:=by simp[getObj,Sem.run,g3]
 have f2:(getObj mb).run P w= .ok (.map ⟨l⟩ cl) w:=by simp[getObj,Sem.run,q1]
 have f3:(!(⟨seen⟩:Array Nat).isEmpty&& !(⟨l⟩:Array MapEntry).isEmpty&&(⟨l⟩:Array MapEntry).all (λx=>decide (x.born>=stp)))=false:=by
  rw[<-q2] at ht;rw[<-ht];have hb:∀e:MapEntry,decide (e.born>=stp)=Nat.ble stp e.born:=λe=>by rw[Bool.eq_iff_iff];simp[Nat.ble_eq]
  simp[List.all_map,Bool.and_assoc,Function.comp_def,hb]
 have hlen:es.length=l.length:=by rw[<-q2,List.length_map]
 have hout:∀e∈l,seen.contains e.born=false->∃r,RA m φ w r e.val/\(AV.tu [.d (.v (.bool true)),eO e.key,r],st.set iid (.it (.mp id) since (seen++ [e.born]) cl))∈kD iid id since stp cl seen es xs st:=λe he hse=>by
  obtain⟨j,hj⟩:=List.mem_iff_getElem?.1 he;have hxl:xs.length=l.length:=by have:=aS q3;rw[List.length_map] at this;exact this.symm
  have hjl:j<xs.length:=by rw[hxl];exact(giS.1 hj).1
  have hx0:xs[j]? =some xs[j]:=geG hjl;obtain⟨v,v1,v2⟩:=bQ q3 hx0;rw[List.getElem?_map,hj,Option.map_some,ao] at v1;subst v1;refine⟨xs[j],v2,List.mem_append_right _ (List.mem_filterMap.2 ⟨((e.key,e.born),xs[j]),?_,by rw[hse];rfl⟩)⟩;refine List.mem_iff_getElem?.2 ⟨j,?_⟩;rw[List.getElem?_zip_eq_some];exact⟨by rw[<-q2,List.getElem?_map,hj];rfl,hx0⟩
 have hover:(∀e∈l,seen.contains e.born=false->¬e.born<since)->(AV.tu [.d (.v (.bool false))],st)∈kD iid id since stp cl seen es xs st:=λh=>by
  have:es.all (λp=>seen.contains p.2|| !(Nat.blt p.2 since))=true:=by
   rw[<-q2,List.all_map,List.all_eq_true];intro e he;show(seen.contains e.born|| !(Nat.blt e.born since))=true;cases hse:seen.contains e.born with
   |true=>rfl
   |false=>
    have h1:=h e he hse;cases hb:Nat.blt e.born since with
    |false=>rfl
    |true=>exact absurd (by simpa[Nat.blt_eq] using hb) h1
  unfold kD;rw[this];simp
 have hrun:(execOp a.eval ⟨dst, .next x false,ty,pos,after,guard⟩).run P w=(((Instr.next (.pointer (some ⟨b,0,none⟩)) false ty).run P w).andThen λv w'=> .ok (.value v) w'):=by simp[execOp,g2]
 rw[hrun];simp only[Instr.next,Sem.run_bind,f1,f2,Result.andThen_ok,f3,Bool.false_eq_true,if_false];generalize hL:Array.filter (λe:MapEntry=> !(⟨seen⟩:Array Nat).contains e.born) ⟨l⟩=L;have hLm:∀e:MapEntry,e∈L↔e∈l/\seen.contains e.born=false:=λe=>by
  rw[<-hL,Array.mem_filter];simp
 generalize hC:((if(Array.filter (λx:MapEntry=>decide (x.born<since)) L).isEmpty=true then #[none] else #[])++Array.map some (Array.filter (λx:MapEntry=>decide (x.born<since)) L++Array.filter (λx:MapEntry=>decide (x.born>=since)) L):Array (Option MapEntry))=C;have hsome:∀e:MapEntry,some e∈C->e∈L:=λe he=>by
  rw[<-hC] at he;rcases Array.mem_append.1 he with he|he
  split at he<;>simp at he;obtain⟨e',h1,h2⟩:=Array.mem_map.1 he;obtain rfl:=inS h2;rcases Array.mem_append.1 h1 with h1|h1<;>exact(Array.mem_filter.1 h1).1
 have hnone:none∈C->∀e∈L,¬e.born<since:=λhe e hel hlt=>by
  rw[<-hC] at he;rcases Array.mem_append.1 he with he|he
  split at he;rename_i hemp;have:e∈Array.filter (λx:MapEntry=>decide (x.born<since)) L:=Array.mem_filter.2 ⟨hel,dcT hlt⟩;rw[Array.isEmpty_iff.1 hemp] at this;simp at this;simp at he;obtain⟨e',_,h2⟩:=Array.mem_map.1 he;cases h2
 have hpos:0<C.size:=by rw[<-hC,Array.size_append,Array.size_map,Array.size_append];split;simp;omega;rename_i hemp;have:(Array.filter (λx:MapEntry=>decide (x.born<since)) L).size≠0:=λh0=>hemp (by rw[Array.eq_empty_of_size_eq_zero h0];rfl);omega
 obtain⟨j,w1,hj,hal,hrun1⟩:=pN (P:=P) (w:=w) hpos;have hget:C[j]? =some C[j]:=Array.getElem?_eq_getElem hj;have hmem:C[j]∈C:=Array.getElem_mem hj;have hs1:SR m φ st w1:=by rcases hal with rfl|rfl;exact hs;exact hs.drew
 have hev1:∀{w2:World},Ev m φ w1 m φ w2->Ev m φ w m φ w2:=λ{w2} k=>by
  rcases hal with rfl|rfl
  exact k;exact⟨k.pre,k.new,k.os,k.tape,k.output,k.size,k.keep,k.fz⟩
 simp only[hrun1,Result.andThen_ok,hget];cases hcj:C[j] with
 |none=>rw[hcj] at hmem;exact⟨.tuple #[.bool false],w1,m,φ,_,hover (λe he hse=>hnone hmem e ((hLm e).2 ⟨he,hse⟩)),sM,hev1 (Ev.refl m φ w1),hs1,by simp[RA,RAs,RD]⟩
 |some e=>
  rw[hcj] at hmem;obtain⟨hel,hes⟩:=(hLm e).1 (hsome e hmem);obtain⟨r,hr1,hr2⟩:=hout e hel hes;obtain⟨k1,k2⟩:=itSet (seen':=seen++ [e.born]) (stp':=cl) hs1 hit g1 g4';have hb1:w1.heap[b]? =some (.mapIter (some mb) since ⟨seen⟩ stp):=by rcases hal with rfl|rfl<;>exact g3
  have hset:(setObj b (Obj.mapIter (some mb) since ((⟨seen⟩:Array Nat).push e.born) cl)).run P w1= .ok () { w1 with heap:=w1.heap.setIfInBounds b (.mapIter (some mb) since ⟨seen++ [e.born]⟩ cl) }:=by simp[setObj,Sem.run,hb1]
  refine⟨.tuple #[.bool true,e.key,e.val],_,m,φ,_,hr2,?_,hev1 k1,k2,?_⟩;simp only[Sem.run_bind,hset,Result.andThen_ok,Sem.run_pure];have h1:=RA.mono (hev1 k1).pre (hev1 k1).fz _ _ hr1;simp only[RA];exact⟨_,rfl,aC RAv (aC (lE _) (aC h1 bB))⟩
end
end Go.Sk
namespace Go.Sk
open Go.RowKit (Below)
def eN{ε σ:Type}(step:ε->σ->Option σ):List ε->σ->Option σ
 |[],s=>some s
 |x::l,s=>(step x s).bind (eN step l)
def AllO{ε σ β:Type}(L:List ε)(step:ε->σ->Option σ)(K:σ->Option β)(s:σ)(r:β):Prop:=∀l,l.Perm L->(eN step l s).bind K=some r
open Classical in
noncomputable def cA{ε σ β:Type}(L:List ε)(step:ε->σ->Option σ)(K:σ->Option β)(s:σ):Option β:=if h:∃r,AllO L step K s r then some h.choose else none
theorem pQ{ε σ β:Type}{L:List ε}{step:ε->σ->Option σ}{K:σ->Option β}{s:σ}{r:β}(h:cA L step K s=some r):AllO L step K s r:=by unfold cA at h;split at h;rename_i h';have:=h'.choose_spec;rw[inS h] at this;exact this;cases h
theorem ei{ε σ β:Type}{L:List ε}{step:ε->σ->Option σ}{K:σ->Option β}{s:σ}{r:β}(h:AllO L step K s r):cA L step K s=some r:=by have h':∃r,AllO L step K s r:=⟨r,h⟩;have h2:=h'.choose_spec L (List.Perm.refl L);unfold cA;rw[dif_pos h',<-h2];exact h L (List.Perm.refl L)
theorem AllO.nil{ε σ β:Type}{step:ε->σ->Option σ}{K:σ->Option β}{s:σ}{r:β}(h:AllO [] step K s r):K s=some r:=h [] (List.Perm.refl _)
theorem AllO.cons{ε σ β:Type}{L R:List ε}{x:ε}{step:ε->σ->Option σ}{K:σ->Option β}{s:σ}{r:β}(h:AllO R step K s r)(hp:R.Perm (x::L)):∃s1,step x s=some s1/\AllO L step K s1 r:=by
 cases hs:step x s with
 |none=>have:=h (x::L) hp.symm;rw[eN,hs] at this;cases this
 |some s1=>refine⟨s1,rfl,λl hl=>?_⟩;have:=h (x::l) ((hl.cons x).trans hp.symm);rwa [eN,hs,bnS] at this
def jI{ε:Type}(L:List ε)(seen:List Nat):List ε:=(L.zipIdx.filter λp=> !seen.contains p.2).map (·.1)
theorem mj{ε:Type}(L:List ε):jI L []=L:=by unfold jI;rw[List.filter_eq_self.2 (by intro p _;rfl)];apply List.ext_getElem?;intro i;rw[List.getElem?_map,List.getElem?_zipIdx];cases L[i]? <;>simp
theorem rf{ε:Type}{L:List ε}{seen:List Nat}(h:∀j,j<L.length->j∈seen):jI L seen=[]:=by unfold jI;rw[List.filter_eq_nil_iff.2,List.map_nil];intro p hp;have:=List.mem_zipIdx hp;have:=h p.2 oM;simp[this]
theorem pP{ε:Type}{L:List ε}{seen:List Nat}{j:Nat}{x:ε}(hx:L[j]? =some x)(hj:j∉seen):(jI L seen).Perm (x::jI L (seen++ [j])):=by
 have key:∀(l:List (ε×Nat)),(l.map (·.2)).Nodup->(x,j)∈l->(l.filter λp=> !seen.contains p.2).Perm ((x,j)::l.filter λp=> !(seen++ [j]).contains p.2):=by
  intro l;induction l with
  |nil=>intro _ h;cases h
  |cons p l ih=>
   intro hn hm;rw[List.map_cons,List.nodup_cons] at hn;rcases List.mem_cons.1 hm with rfl|hm
   have e1:(!seen.contains (x,j).2)=true:=by simp[hj]
   have e2:(!(seen++ [j]).contains (x,j).2)=false:=sM;rw[List.filter_cons,if_pos e1,List.filter_cons,if_neg (by rw[e2];decide)];have:(l.filter λp=> !seen.contains p.2)=l.filter λp=> !(seen++ [j]).contains p.2:=by refine List.filter_congr λq hq=>?_;have:q.2≠j:=λe=>hn.1 (by have:=List.mem_map_of_mem (f:=Prod.snd) hq;rw[e] at this;exact this);simp[this]
   rw[this];have hp:p.2≠j:=λe=>hn.1 (by rw[e];exact List.mem_map_of_mem (f:=Prod.snd) hm);have e:(!(seen++ [j]).contains p.2)= !seen.contains p.2:=by simp[hp]
   have ih:=ih hn.2 hm;rw[List.filter_cons,List.filter_cons,e];split;exact(ih.cons p).trans (List.Perm.swap _ _ _);exact ih
 have hm:(x,j)∈L.zipIdx:=by rw[List.mem_zipIdx_iff_getElem?];exact hx
 have hn:(L.zipIdx.map (·.2)).Nodup:=by
  have:L.zipIdx.map (·.2)=List.range L.length:=by apply List.ext_getElem?;intro i;rw[List.getElem?_map,List.getElem?_zipIdx];by_cases hi:i<L.length;simp[geG hi,List.getElem?_range hi];rw[List.getElem?_eq_none oM,List.getElem?_eq_none (by simp;omega)];rfl
  rw[this];exact List.nodup_range
 exact(key _ hn hm).map (·.1)
theorem SR.swap{m:List Cz}{φ:Nat->Nat}{w:World}{st:List AO}{id:Nat}{o o':AO}(hs:SR m φ st w)(hi:st[id]? =some o)(hl:o.live=true)(h:∀c,OR m φ w o c->OR m φ w o' c):SR m φ (st.set id o') w:=by
 have hlt:=(giS.1 hi).1;refine⟨by rw[List.length_set];exact hs.len,λi x c h1 h2=>?_,hs.lt,λi j x x' c c' b h1 h2 l1 l2 g1 g2 b1 b2=>?_,hs.gl,hs.nb⟩;by_cases hii:id=i;subst hii;rw[List.getElem?_set_self hlt,ao] at h1;subst h1;exact h c (hs.obj _ _ _ hi h2);rw[List.getElem?_set_ne hii] at h1;exact hs.obj _ _ _ h1 h2;have old:∀(i:Nat)(x:AO),(st.set id o')[i]? =some x->x.live=true->∃y,st[i]? =some y/\y.live=true:=λi x hx hlx=>by
  by_cases hii:id=i;subst hii;exact⟨o,hi,hl⟩;rw[List.getElem?_set_ne hii] at hx;exact⟨x,hx,hlx⟩
 obtain⟨y,e1,e2⟩:=old i x h1 l1;obtain⟨y',e3,e4⟩:=old j x' h2 l2;exact hs.inj i j y y' c c' b e1 e3 e2 e4 g1 g2 b1 b2
section
variable{κ α:Type}
def bS(kf:κ->Value)(L:List (κ×α)):List (Value×Nat):=(L.map λp=>kf p.1).zipIdx
theorem sv{m φ w}(kf:κ->Value)(g:α->AV)(L:List (κ×α))(c:Cz)(h:OR m φ w (mpO kf g L) c):OR m φ w (.mb (bS kf L) (L.map λp=>g p.2) L.length) c:=by
 obtain⟨b,h1,h2,l,cl,h3,h4,h5,h6,h7⟩:=h;have hlen:l.length=L.length:=by have:=congrArg List.length h4;simpa using this
 subst h6;refine⟨b,h1,h2,l,by rw[<-hlen];exact h3,?_,by simpa[List.map_map,Function.comp_def] using h5⟩;apply List.ext_getElem?;intro i;have k1:(l.map (·.key))[i]? =(L.map λp=>kf p.1)[i]? :=by rw[h4,List.map_map];rfl
 have k2:(l.map (·.born))[i]? =(List.range l.length)[i]? :=by rw[h7]
 rw[List.getElem?_map] at k1 k2⊢;unfold bS;rw[List.getElem?_zipIdx];cases hl:l[i]? with
 |none=>rw[hl,Option.map_none] at k1;rw[<-k1];rfl
 |some e=>rw[hl,Option.map_some] at k1 k2;rw[<-k1];have hi:i<l.length:=(giS.1 hl).1;rw[List.getElem?_range hi,ao] at k2;simp[k2]
theorem sx{m φ w}(kf:κ->Value)(g:α->AV)(L:List (κ×α))(c:Cz)(h:OR m φ w (.mb (bS kf L) (L.map λp=>g p.2) L.length) c):OR m φ w (mpO kf g L) c:=by
 obtain⟨b,h1,h2,l,h3,h4,h5⟩:=h;have hlen:l.length=L.length:=by have:=congrArg List.length h4;simpa[bS] using this
 refine⟨b,h1,h2,l,L.length,h3,?_,by simpa[List.map_map,Function.comp_def] using h5,hlen.symm,?_⟩;have:=congrArg (List.map Prod.fst) h4;simpa[List.map_map,Function.comp_def,bS] using this;have:=congrArg (List.map Prod.snd) h4;simp only[List.map_map,Function.comp_def] at this;rw[hlen];refine this.trans ?_;unfold bS;apply List.ext_getElem?;intro i;rw[List.getElem?_map,List.getElem?_zipIdx];by_cases hi:i<L.length;simp[geG hi,List.getElem?_range hi];rw[List.getElem?_eq_none (by simp;omega),List.getElem?_eq_none (by simp;omega)];rfl
theorem mT{st:List AO}{id:Nat}{o:AO}(h:st[id]? =some o)(o':AO):(st.set id o').set id o=st:=by rw[List.set_set];apply List.ext_getElem?;intro i;by_cases hii:id=i;subst hii;rw[List.getElem?_set_self (giS.1 h).1,h];rw[List.getElem?_set_ne hii]
variable{P:Program}{env:Env}{st:List AO}{dst:Option Tmp}{ty:TypeId}{pos:String}{after:Array Edge}{guard:Option (Nat×Bool)}
theorem gq{T kt et:TypeId}{x:Operand}{id:Nat}(kf:κ->Value)(g:α->AV)(L:List (κ×α))(hT:P.underlying T=some (.map kt et))(hx:opv env x=some (.mp id))(hi:st[id]? =some (mpO kf g L)):
  Does P env st ⟨dst, .range T x,ty,pos,after,guard⟩ (.pt st.length 0) (st++ [.it (.mp id) L.length [] L.length]):=λm φ a w hs he=>by
 have hlt:=(giS.1 hi).1;have hs':=hs.swap hi rfl (sv kf g L);have h1:rgX P env (st.set id (.mb (bS kf L) (L.map λp=>g p.2) L.length)) T x=some (.pt st.length 0,st.set id (.mb (bS kf L) (L.map λp=>g p.2) L.length)++ [.it (.mp id) L.length [] L.length]):=by unfold rgX;rw[hT,hx];simp only[List.getElem?_set_self hlt,List.length_set]
 obtain⟨v,w',m',φ',k1,k2,k3,k4⟩:=vw (dst:=dst) (ty:=ty) (pos:=pos) (after:=after) (guard:=guard) h1 m φ a w hs' he;refine⟨v,w',m',φ',k1,k2,?_,k4⟩;have hg:(st.set id (.mb (bS kf L) (L.map λp=>g p.2) L.length)++ [.it (.mp id) L.length [] L.length])[id]? =some (.mb (bS kf L) (L.map λp=>g p.2) L.length):=by rw[List.getElem?_append_left (by rw[List.length_set];exact hlt),List.getElem?_set_self hlt]
 have:=k3.swap hg rfl (sx kf g L);rwa [List.set_append_left _ _ (by rw[List.length_set];exact hlt),mT hi] at this
theorem fZ{x:Operand}{iid id N:Nat}{seen:List Nat}{j:Nat}(kf:κ->Value)(g:α->AV)(L:List (κ×α)){p:κ×α}(hx:opv env x=some (.pt iid 0))(hit:st[iid]? =some (.it (.mp id) N (seen++ [j]) N))(hi:st[id]? =some (mpO kf g L))(hN:N=L.length)(hj:L[j]? =some p):
  Yields P env st ⟨dst, .entry x,ty,pos,after,guard⟩ (.tu [eO (kf p.1),g p.2]):=λm φ a w hs he=>by
 subst hN;have hlt:=(giS.1 hi).1;have hne:id≠iid:=λe=>by subst e;rw[hi] at hit;cases hit
 have hs':=hs.swap hi rfl (sv kf g L);have hjl:j<L.length:=(giS.1 hj).1;have hb:∀(es:List (Value×Nat))(k n:Nat),(∀i,i<es.length->(es[i]?).map (·.2)=some (k+i))->n<es.length->lj es (k+n)=some n:=by
  intro es;induction es with
  |nil=>intro k n _ h;simp at h
  |cons e es ih=>
   intro k n h hn;unfold lj;have h0:=h 0 sM;simp only[List.getElem?_cons_zero,Option.map_some,ao,Nat.add_zero] at h0;cases n with
   |zero=>rw[h0,Nat.add_zero,Nat.beq_refl];rfl
   |succ n=>
    have:Nat.beq e.2 (k+(n+1))=false:=by
     cases hb:Nat.beq e.2 (k+(n+1)) with
     |false=>rfl
     |true=>have:=nbE hb;omega
    rw[this,cdF,show k+(n+1)=(k+1)+n by omega,ih (k+1) n (λi hi=>by
     have:=h (i+1) (by simpa using hi);rw[List.getElem?_cons_succ] at this;rw[this];congr 1;omega) (by simpa using hn)]
 have hel:(bS kf L).length=L.length:=by simp[bS]
 have hej:(bS kf L)[j]? =some (kf p.1,j):=by unfold bS;rw[List.getElem?_zipIdx,List.getElem?_map,hj];simp
 have hbl:lj (bS kf L) j=some j:=by
  have:=hb (bS kf L) 0 j (λi hi=>by
   unfold bS;rw[hel] at hi;rw[List.getElem?_zipIdx,List.getElem?_map,geG hi];simp) (by rw[hel];exact hjl)
  rwa [Nat.zero_add] at this
 refine vY (dst:=dst) (ty:=ty) (pos:=pos) (after:=after) (guard:=guard) (st:=st.set id (.mb (bS kf L) (L.map λp=>g p.2) L.length)) ?_ m φ a w hs' he;unfold enX;rw[hx];simp only[List.getElem?_set_ne hne,hit,List.getLast?_append,List.getLast?_singleton,Option.some_or,List.getElem?_set_self hlt,Nat.beq_refl,cdT,hbl,hej,List.getElem?_map,hj,Option.map_some]
theorem gr{e:En}{ops:Array Oper}{rest:List Oper}{o:Oper}{d:Nat}{x:Operand}{R:Env->List AO->Prop}{iid id N:Nat}{seen:List Nat}(kf:κ->Value)(g:α->AV)(L:List (κ×α))(hop:o.op= .next x false)(hx:opv env x=some (.pt iid 0))(hit:st[iid]? =some (.it (.mp id) N seen N))(hi:st[id]? =some (mpO kf g L))(hN:N=L.length)
  (hw:Wt ops env o true)(ho:o.dst=some d)(hd:Nat.ble (d+1) e.n=true)(h0:(∀j,j<L.length->j∈seen)->WL P e ops rest ((d, .tu [.d (.v (.bool false))])::env) st R)
  (h1:∀j p,L[j]? =some p->j∉seen->WL P e ops rest ((d, .tu [.d (.v (.bool true)),eO (kf p.1),g p.2])::env) (st.set iid (.it (.mp id) N (seen++ [j]) N)) R):WL P e ops (o::rest) env st R:=λm φ a w hinv=>by
 subst hN;have hlt:=(giS.1 hi).1;have hne:id≠iid:=λe=>by subst e;rw[hi] at hit;cases hit
 obtain⟨odst,oop,oty,opos,oaf,og⟩:=o;simp only at hop ho;subst hop;subst ho;have hs':=hinv.sr.swap hi rfl (sv kf g L);have hel:(bS kf L).length=L.length:=by simp[bS]
 have hmem:∀q∈bS kf L,q.2<L.length:=λq hq=>by
  unfold bS at hq;have:=List.mem_zipIdx hq;simp at this;omega
 have ht:(!seen.isEmpty&&(!(bS kf L).isEmpty&&(bS kf L).all λp=>Nat.ble L.length p.2))=false:=by
  cases hE:bS kf L with
  |nil=>simp
  |cons q es=>
   have hq:=hmem q (by rw[hE];exact List.mem_cons_self);have:Nat.ble L.length q.2=false:=by
    cases hb:Nat.ble L.length q.2 with
    |false=>rfl
    |true=>have:=nbT hb;omega
   simp[this]
 have hit':(st.set id (.mb (bS kf L) (L.map λp=>g p.2) L.length))[iid]? =some (.it (.mp id) L.length seen L.length):=by rw[List.getElem?_set_ne hne];exact hit
 obtain⟨v,w',m',φ',p,hp,k1,k2,k3,k4⟩:=nx_ok (P:=P) (dst:=some d) (ty:=oty) (pos:=opos) (after:=oaf) (guard:=og) hx hit' (List.getElem?_set_self hlt) ht m φ a w hs' hinv.env;unfold d5;rw[if_pos (hw _ _ _ _ hinv.env)];refine .inl ?_;simp only[Oper.wp,k1,Oper.upon];unfold kD at hp;rcases List.mem_append.1 hp with hp|hp
 cases hall:(bS kf L).all (λp=>seen.contains p.2|| !(Nat.blt p.2 L.length)) with
 |false=>rw[hall] at hp;cases hp
 |true=>
  rw[hall,cdT,List.mem_singleton] at hp;subst hp;have hsr:SR m' φ' st w':=by have:=k3.swap (List.getElem?_set_self hlt) rfl (sx kf g L);rwa [mT hi] at this
  have hi':=hinv.ev_put (d:=d) k2 hsr (nbT hd) k4;refine h0 (λj hj=>?_) m' φ' _ w' hi';have hej:(bS kf L)[j]? =some (kf L[j].1,j):=by unfold bS;rw[List.getElem?_zipIdx,List.getElem?_map,geG hj];simp
  have:=List.all_eq_true.1 hall _ (List.mem_of_getElem? hej);have hb:Nat.blt j L.length=true:=by simp[Nat.blt_eq,hj]
  simpa[hb] using this
 obtain⟨q,hq,hqe⟩:=List.mem_filterMap.1 hp;obtain⟨j,hj⟩:=List.mem_iff_getElem?.1 hq;rw[List.getElem?_zip_eq_some] at hj;obtain⟨hj1,hj2⟩:=hj;have hjl:j<L.length:=by rw[<-hel];exact(giS.1 hj1).1
 have hej:(bS kf L)[j]? =some (kf L[j].1,j):=by unfold bS;rw[List.getElem?_zipIdx,List.getElem?_map,geG hjl];simp
 rw[hej,ao] at hj1;rw[List.getElem?_map,geG hjl,Option.map_some,ao] at hj2;obtain⟨⟨q1,q2⟩,q3⟩:=q;simp only[Prod.mk.injEq] at hj1;obtain⟨rfl,rfl⟩:=hj1;simp only at hj2 hqe;subst hj2;cases hse:seen.contains j with
 |true=>rw[hse] at hqe;cases hqe
 |false=>
  rw[hse,cdF,ao] at hqe;subst hqe;have hg:((st.set id (.mb (bS kf L) (L.map λp=>g p.2) L.length)).set iid (.it (.mp id) L.length (seen++ [j]) L.length))[id]? =some (.mb (bS kf L) (L.map λp=>g p.2) L.length):=by rw[List.getElem?_set_ne (Ne.symm hne),List.getElem?_set_self hlt]
  have hsr:SR m' φ' (st.set iid (.it (.mp id) L.length (seen++ [j]) L.length)) w':=by have:=k3.swap hg rfl (sx kf g L);rwa [List.set_comm _ _ (Ne.symm hne),mT hi] at this
  have hi':=hinv.ev_put (d:=d) k2 hsr (nbT hd) k4;exact h1 j L[j] (geG hjl) (by simpa using hse) m' φ' _ w' hi'
end
end Go.Sk
namespace Go.Sk
open Go.RowKit (Below)
open Go.MapKept (IsKey sameNow_of_keys run_getObj_map run_setObj_map run_checkKey run_findKey run_keyThatStays)
def AllN{ε σ β:Type}(L:List ε)(seen:List Nat)(step:ε->σ->Option σ)(K:σ->Option β)(s:σ)(r:β)(n:Nat):Prop:=AllO (jI L seen) step K s r/\(jI L seen).length<=n
theorem eF{ε σ β:Type}{L:List ε}{step:ε->σ->Option σ}{K:σ->Option β}{s:σ}{r:β}(h:cA L step K s=some r):AllN L [] step K s r L.length:=by refine⟨?_,?_⟩;rw[mj];exact pQ h;rw[mj];exact Nat.le_refl _
theorem fp{ε σ β:Type}{L:List ε}{seen:List Nat}{step:ε->σ->Option σ}{K:σ->Option β}{s:σ}{r:β}{n:Nat}(h:AllN L seen step K s r n)(hs:∀j,j<L.length->j∈seen):K s=some r:=by have:=h.1;rw[rf hs] at this;exact this.nil
theorem AllN.pick{ε σ β:Type}{L:List ε}{seen:List Nat}{step:ε->σ->Option σ}{K:σ->Option β}{s:σ}{r:β}{n j:Nat}{x:ε}(h:AllN L seen step K s r n)(hx:L[j]? =some x)(hj:j∉seen):∃n' s1,n=n'+1/\step x s=some s1/\AllN L (seen++ [j]) step K s1 r n':=by have hp:=pP hx hj;obtain⟨s1,h1,h2⟩:=h.1.cons hp;have hl:=hp.length_eq;have h3:=h.2;rw[List.length_cons] at hl;exact⟨n - 1,s1,oM,h1,h2,oM⟩
section
variable{P:Program}{env:Env}{st:List AO}{dst:Option Tmp}{ty:TypeId}{pos:String}{after:Array Edge}{guard:Option (Nat×Bool)}
variable{κ α:Type}[DecidableEq κ]
theorem cD{m φ w}:RA m φ w (.d (.sl [])) (.slice none 0 0):=by simp only[RA,RD];exact .inl ⟨trivial,none,0,rfl,λ_=>rfl⟩
theorem fY{T kt et:TypeId}{d:TypeDesc}{x ki:Operand}{id:Nat}(kf:κ->Value)(g:α->AV)(L:List (κ×α)){k:κ}{z:α}{zv:Value}{r:AV}{b:Bool}(hT:P.underlying T=some (.map kt et))(hd:P.underlying kt=some d)(hK:KeyF d kf)
  (hx:opv env x=some (.mp id))(hi:st[id]? =some (mpO kf g L))(hk:opv env ki=some (.d (.v (kf k))))(hz:(P.info? et).bind (·.zero)=some zv)(hgz:∀m φ w,RA m φ w (g z) zv)(hr:g ((ac L k).getD z)=r)(hb:(ac L k).isSome=b):
  Yields P env st ⟨dst, .lookup T x ki true,ty,pos,after,guard⟩ (.tu [r, .d (.v (.bool b))]):=λm φ a w hs he=>by
 subst hr;subst hb;obtain⟨b,h1,h2⟩:=d7 he hx;obtain⟨b',hbb,h0,l,cl,g1,g2,g3,g4⟩:=hs.obj id _ _ hi h1;simp only[Cz.blk.injEq] at hbb;subst hbb;have hkeys:l.map (·.key)=L.map (λp=>kf p.1):=by rw[g2];simp
 have hkv:=aQ he hk;have hlt:=bK g1;have tu:∀{x:AV}{v:Value}{c:Bool},RA m φ w x v->RA m φ w (.tu [x, .d (.v (.bool c))]) (.tuple #[v, .bool c]):=λh=>by
  simp only[RA];exact⟨_,rfl,aC h (aC RAv bB)⟩
 cases hinf:P.info? et with
 |none=>simp[hinf] at hz
 |some i=>
  simp only[hinf,bnS] at hz;rcases dt hK k L l 0 hkeys with⟨q1,q2,_⟩|⟨j,e,y,q1,q2,q3,q4,q5,_⟩
  refine⟨.tuple #[zv, .bool false],by rw[q1,Option.getD_none];exact tu (hgz m φ w),λw' hb=>?_⟩;have g1':w'.heap[b]? =some (.map ⟨l⟩ cl):=by rw[hb.block b hlt];exact g1
  simp[execOp,Instr.lookup,h2,hkv,run_underlying hT,MapKept.run_getObj_map g1',run_checkKey hd (hK.key k),run_findKey hd q2,zeroValue,typeInfo,hinf,hz,Result.andThen];have hval:RA m φ w (g y) e.val:=by
   have:(((L.map λp=>(kf p.1,g p.2)).map (·.2)))[j]? =some (g y):=by simp[q2]
   obtain⟨v',hv1,hv2⟩:=bQ g3 this;simp only[List.getElem?_map,q1,Option.map_some,ao] at hv1;rw[hv1];exact hv2
  refine⟨.tuple #[e.val, .bool true],by rw[q3,Option.getD_some];exact tu hval,λw' hb=>?_⟩;have g1':w'.heap[b]? =some (.map ⟨l⟩ cl):=by rw[hb.block b hlt];exact g1
  simp[execOp,Instr.lookup,h2,hkv,run_underlying hT,MapKept.run_getObj_map g1',run_checkKey hd (hK.key k),run_findKey hd q5,Result.andThen]
theorem cL{T kt et:TypeId}{d:TypeDesc}{x ki:Operand}{id:Nat}(kf:κ->Value)(g:α->AV)(L:List (κ×α)){k:κ}{z:α}{zv:Value}(hT:P.underlying T=some (.map kt et))(hd:P.underlying kt=some d)(hK:KeyF d kf)
  (hx:opv env x=some (.mp id))(hi:st[id]? =some (mpO kf g L))(hk:opv env ki=some (.d (.v (kf k))))(hz:(P.info? et).bind (·.zero)=some zv)(hgz:∀m φ w,RA m φ w (g z) zv):
  Yields P env st ⟨dst, .lookup T x ki false,ty,pos,after,guard⟩ (g ((ac L k).getD z)):=λm φ a w hs he=>by
 obtain⟨b,h1,h2⟩:=d7 he hx;obtain⟨b',hbb,h0,l,cl,g1,g2,g3,g4⟩:=hs.obj id _ _ hi h1;simp only[Cz.blk.injEq] at hbb;subst hbb;have hkeys:l.map (·.key)=L.map (λp=>kf p.1):=by rw[g2];simp
 have hkv:=aQ he hk;have hlt:=bK g1;cases hinf:P.info? et with
 |none=>simp[hinf] at hz
 |some i=>
  simp only[hinf,bnS] at hz;rcases dt hK k L l 0 hkeys with⟨q1,q2,_⟩|⟨j,e,y,q1,q2,q3,q4,q5,_⟩
  refine⟨zv,by rw[q1,Option.getD_none];exact hgz m φ w,λw' hb=>?_⟩;have g1':w'.heap[b]? =some (.map ⟨l⟩ cl):=by rw[hb.block b hlt];exact g1
  simp[execOp,Instr.lookup,h2,hkv,run_underlying hT,MapKept.run_getObj_map g1',run_checkKey hd (hK.key k),run_findKey hd q2,zeroValue,typeInfo,hinf,hz,Result.andThen];have hval:RA m φ w (g y) e.val:=by
   have:(((L.map λp=>(kf p.1,g p.2)).map (·.2)))[j]? =some (g y):=by simp[q2]
   obtain⟨v',hv1,hv2⟩:=bQ g3 this;simp only[List.getElem?_map,q1,Option.map_some,ao] at hv1;rw[hv1];exact hv2
  refine⟨e.val,by rw[q3,Option.getD_some];exact hval,λw' hb=>?_⟩;have g1':w'.heap[b]? =some (.map ⟨l⟩ cl):=by rw[hb.block b hlt];exact g1
  simp[execOp,Instr.lookup,h2,hkv,run_underlying hT,MapKept.run_getObj_map g1',run_checkKey hd (hK.key k),run_findKey hd q5,Result.andThen]
end
end Go.Sk
namespace Go.Sk
open Go.RowKit (Below)
open Go.Sort (Holds putRow grow putCells mapBlock)
theorem ox{w:World}{g n:Nat}{cur:Array Value}{e:TypeId}{x:Int}{ts:List Int}(hb:w.heap[g]? =some (.cells cur e (0,0)))(hx:cur[0]? =some (.int .i64 x)):
  putRow (Value.int .i64) (Sort.ahead w n) g 1 ts.toArray=putRow (Value.int .i64) (Sort.ahead w n) g 0 (x::ts).toArray:=by
 have key:putCells (Value.int .i64) 1 ts.toArray cur=putCells (Value.int .i64) 0 (x::ts).toArray cur:=by
  apply Array.ext_getElem?;intro k;unfold putCells;rw[Array.getElem?_mapIdx,Array.getElem?_mapIdx];cases hk:cur[k]? with
  |none=>rfl
  |some c=>
   simp only[Option.map_some,ao];cases k with
   |zero=>rw[hk,ao] at hx;subst hx;simp
   |succ k=>simp only[Nat.zero_le,true_and,List.size_toArray,List.length_cons,Nat.sub_zero,Nat.zero_add,Nat.add_sub_cancel];by_cases h:k<ts.length;rw[if_pos oM,if_pos oM];simp[h];rw[if_neg oM,if_neg oM]
 unfold putRow mapBlock;congr 1;apply Array.ext_getElem?;intro i;rw[Array.getElem?_modify,Array.getElem?_modify];by_cases hi:g=i;subst hi;rw[if_pos rfl,if_pos rfl];show Option.map _ (w.heap[g]?)=Option.map _ (w.heap[g]?);rw[hb];simp only[Option.map_some,ao];unfold Sort.onCells;simp only[key];rw[if_neg hi,if_neg hi]
theorem rt{P:Program}{f:FuncId}{T ver n:Nat}{L:List Int}(hcan:eU P f)
  (hs:∀(blk off cap:Nat)(zs:List Int)(w:World),Holds (Value.int .i64) w blk off zs.toArray->blk<w.heap.size->zs.length<4611686018427387904->
   Calls P f #[.slice (some ⟨blk,off,none⟩) zs.length cap] w λe w'=>e= .returned (.tuple #[])/\∃n os,w'=grow (putRow (Value.int .i64) (Sort.ahead w n) blk off (zs.mergeSort λx y=>decide (x<=y)).toArray) os)
  (hn:∀(p:Option Addr)(cap:Nat)(w:World),Calls P f #[.slice p 0 cap] w λe w'=>e= .returned (.tuple #[])/\w'=w)(hl:L.length<4611686018427387904)(h1:1<=L.length)(hlen:n=L.length - 1):
  Ctr P f [.ow 0 ver 1 n 1] [.os T 1 ver (L.map (aJ EI))] (iH 1 (.tu []) λ_=> [.os T 1 ver ((L.take 1++(L.drop 1).mergeSort λx y=>decide (x<=y)).map (aJ EI))]):=by
 obtain⟨x,Lt,rfl⟩:∃x Lt,L=x::Lt:=by
  cases L with
  |nil=>simp at h1
  |cons x L=>exact⟨x,L,rfl⟩
 simp only[List.take_succ_cons,List.take_zero,List.drop_succ_cons,List.drop_zero,List.cons_append,List.nil_append];have hn1:n=Lt.length:=by simpa using hlen
 subst hn1;refine⟨hcan,λm φ w vs hsr ha=>?_⟩;simp only[RAs] at ha;obtain⟨z,_,rfl,hz,rfl⟩:=ha;simp only[RA] at hz;obtain⟨v0,y,g1,g2,g3⟩:=hz;obtain⟨y1,xs,e1,r1,r2,r3,r4⟩:=hsr.obj 0 _ _ rfl g1;simp only[Cz.tok.injEq] at e1;obtain⟨rfl,rfl⟩:=e1;have g3:=g3 rfl;have hx:=d4.1 r2;subst hx;rw[List.length_map] at r1;have main:Calls P f ⟨[z]⟩ w λe w'=>e= .returned (.tuple #[])/\w'.ownsRow 0 T 1 y (x::Lt.mergeSort λx y=>decide (x<=y)).length (iv (x::Lt.mergeSort λx y=>decide (x<=y)))/\w.grownBy w' y.ownBlock:=by
  have r1':=r1;rcases g3 with⟨rfl,rfl,hz0⟩|⟨b,nn,cap,off',rfl,rfl,hoff⟩
  obtain⟨q1,q2⟩:=r1;rcases q2 with⟨_,q2⟩|⟨_,_,_,q2,_⟩
  omega;cases q2;by_cases hz0:Lt.length=0;have h0:Lt=[]:=List.eq_nil_of_length_eq_zero hz0;subst h0;refine(hn (some ⟨b,off',none⟩) (cap - 1) w).mono ?_;rintro e w' ⟨rfl,rfl⟩;exact⟨rfl,by simpa using r1,World.grownBy.refl _ _⟩;have ho:off'=1:=hoff.resolve_right hz0;subst ho;obtain⟨q1,q2⟩:=r1;rcases q2 with⟨q2,_⟩|⟨g,cap',cur,q2,p1,p2,p3,p4,p5,p6⟩
  cases q2;cases q2;have hH:=jk r1' rfl;have hcur:cur[0]? =some (.int .i64 x):=by have hc:=(hH 0 sM).1;rw[Nat.zero_add] at hc;unfold World.cell? at hc;rw[p2] at hc;simpa using hc
  have hT:Holds (Value.int .i64) w b 1 Lt.toArray:=λj hj=>by
   have hj':j<Lt.length:=by simpa using hj
   have:=hH (j+1) (by simpa using hj');rw[Nat.zero_add] at this;rw[Nat.add_comm 1 j];refine⟨?_,this.2⟩;rw[this.1];simp[hj']
  refine(hs b 1 (cap - 1) Lt w hT (Array.getElem?_eq_some_iff.1 p2).1 (by simp at hl;omega)).mono ?_;rintro e w' ⟨rfl,nd,os,rfl⟩;rw[ox p2 hcur];have hlen2:(x::Lt.mergeSort λx y=>decide (x<=y)).length=(x::Lt).length:=sM;have k:=ownsRow_sortedI (w:=w) (base:=0) (n:=nd) (os:=os) (ss:=x::Lt) (ts:=x::Lt.mergeSort λx y=>decide (x<=y)) hlen2 (Nat.zero_le b) p2 p3 p4 p5;refine⟨rfl,?_,grownBy_sortedI _⟩;rw[hlen2];exact k
 refine main.mono ?_;rintro e w' ⟨rfl,k1,k2⟩;have hF:Fz φ w φ w':=λb off cc q1 q2=>⟨q1,by
  have hlt:=bV hsr q1;have hne:some b≠y.ownBlock:=λe=>by have:=r4 b e.symm;omega
  rw[cu (k2.block b hlt hne)];exact q2⟩
 have hm:m.set 0 (.tok v0 y)=m:=by apply List.ext_getElem?;intro i;by_cases hi:i=0;subst hi;rw[List.getElem?_set_self (cF g1),g1];rw[List.getElem?_set_ne (Ne.symm hi)]
 obtain⟨q1,q2⟩:=dQ (o':= .os T 1 v0 ((x::Lt.mergeSort λx y=>decide (x<=y)).map (aJ EI))) (c':= .tok v0 y) (φ':=φ) hsr (id:=0) rfl rfl g1 (Cz.le_refl _) k2.os k2.tape k2.output k2.size
  (λb hb hn=>⟨k2.block b hb (λe=>hn (by simp[Cz.has,<-e])),rfl⟩) hF (λb hb=>hsr.lt b (Nat.le_trans k2.size hb)) (λb hb=> .inl hb)
  ⟨y,_,rfl,by rw[List.length_map];exact k1,d4.2 rfl,kT _,r4⟩
 rw[hm] at q1 q2;exact⟨.tuple #[], .d (.tu []),[.os T 1 v0 _],m,φ,rfl,⟨v0,rfl,sM,rfl⟩,q1,q2,by simp[RA,RD,RFs]⟩
end Go.Sk
namespace Go.Sk
open Go.RowKit (Below)
theorem wk(n:Nat)(f:Nat->D):Le (.ag (vq n λj=> .d (f j))) (.d (.ag (pJ n f))):=b9 (by rw[rR];exact Les.refl _)
section
variable{P:Program}{e:En}{ops:Array Oper}{env:Env}{st:List AO}{R:Env->List AO->Prop}{dst:Option Tmp}{ty:TypeId}{pos:String}{after:Array Edge}{guard:Option (Nat×Bool)}
end
end Go.Sk
namespace Go.Sk
open Go.RowKit (Below)
def AV.stabb:AV->Bool
 | .u=>true
 | .d x=>x.gnd.isSome
 | .pt _ _=>true
 | .mp _=>true
 | .fn _ [.pt _ _] []=>true
 |_=>false
def AV.stabs:List AV->Bool
 |[]=>true
 |x::xs=>x.stabb&&AV.stabs xs
inductive pj:List AO->Prop
 |nil:pj []
 |row {T cs l}:AV.stabs cs=true->pj l->pj (.row T cs::l)
 |mp {κ α:Type} {kf:κ->Value} {g:α->AV} {L:List (κ×α)} {l}:(∀z,(g z).stabb=true)->pj l->pj (mpO kf g L::l)
section
variable{P:Program}{e:En}{ops:Array Oper}{o:Oper}{rest:List Oper}{env:Env}{st:List AO}{R:Env->List AO->Prop}{d:Nat}
open Classical in
end
end Go.Sk
namespace Go.Sk
open Go.RowKit (Below)
section
variable{P:Program}{e:En}{ops:Array Oper}{rest:List Oper}{env:Env}{st:List AO}{R:Env->List AO->Prop}{κ:Ko}{x y:Code}
theorem Lv{a b:AV}(h:Le a b:=by
 repeat' (first|exact Le.refl _|exact Le.nil|exact Le.u _|exact Le.fs _|exact Les.refl _|exact trivial|refine fO ?_|refine b9 ?_|refine Le.fnc ?_ ?_|refine⟨?_,?_⟩)):Le a b:=h
theorem Lw{a b:List AV}(h:Les a b:=by
 repeat' (first|exact Le.refl _|exact Le.nil|exact Le.u _|exact Le.fs _|exact Les.refl _|exact trivial|refine fO ?_|refine b9 ?_|refine Le.fnc ?_ ?_|refine⟨?_,?_⟩)):Les a b:=h
theorem Rv{f:Func}{r:AV}(h:Res P f env st r:=by first|exact rs1 rfl (bG rfl)|exact rs2 rfl (bG rfl) (bG rfl)|exact db rfl|exact rs3 rfl (bG rfl) (bG rfl) (bG rfl)):Res P f env st r:=h
theorem Ci{c:Operand}{t:Bool}{β:Sort _}{a b z:β}(h:(bif t then a else b)=z)(hc:opv env c=some (.d (.v (.bool t))))(h1:a=z->WC P e x κ env st)(h0:b=z->WC P e y κ env st):WC P e (.cond c x y) κ env st:=jV hc (λhh=>h1 (ff h hh)) (λhh=>h0 (fg h hh))
theorem Ix{α β:Type}{E Q:α->List D}{L:List α}{i:Int}{F:α->Option β}{r:β}{T n d:Nat}{bb:Bool}{x ix:Operand}{xr:AV}{kk:IntKind}{ty:TypeId}{pos:String}{after:Array Edge}(h:Option.bind (idx L i) F=some r)(hT:aP P T=some (n,bb))(hE:∀x,E x=Q x)(hx:opv env x=some xr)(hle:Le xr (.d (.sl (L.map E))))(hi:opv env ix=some (.d (.v (.int kk i))))(hd:Nat.ble (d+1) e.n=true)
  (k:∀x,idx L i=some x->F x=some r->WL P e ops rest ((d, .d (.pc (Q x)))::env) st R)(hn:∀x,(Q x).length=n:=by exact λ_=>rfl):WL P e ops (⟨some d, .indexAddr T x ix,ty,pos,after,none⟩::rest) env st R:=by
 obtain⟨z,hz,h⟩:=ak h;exact WL.qn (aD hT hx hle hi (az hz) (bv hE hz) (hn z)) hd (k z hz h)
theorem FA{a p:Prop}(ha:a)(h:a->p:=by intro h;obtain rfl:=inS h;exact bM Rv Lv):p:=h ha
theorem FB{a p:Prop}(ha:a)(h:a->p:=by intro h;subst h;exact bM Rv Lv):p:=h ha
variable{dd:Nat}{ty:TypeId}{pos:String}{after:Array Edge}
theorem Bd{T:TypeId}{x:Operand}{r:AV}{ds:List D}(hx:opv env x=some r)(hk:r.okc=true)(hc:Les r.cells (ds.map .d))(hd:Nat.ble (dd+1) e.n=true)(h:WL P e ops rest ((dd, .d (.pc ds))::env) st R):WL P e ops (⟨some dd, .box T x,ty,pos,after,none⟩::rest) env st R:=WL.s (cG hx hk hc).does (Wt.none rfl) rfl hd h
theorem Bx{T:TypeId}{x:Operand}{r:AV}(hx:opv env x=some r)(hk:r.okc=true)(hd:Nat.ble (dd+1) e.n=true)(h:WL P e ops rest ((dd, .pt st.length 0)::env) (st++ [.row T r.cells]) R):WL P e ops (⟨some dd, .box T x,ty,pos,after,none⟩::rest) env st R:=WL.s (b_box hx hk).does (Wt.none rfl) rfl hd h
theorem Al{T:TypeId}{vs:List Value}(hz:aY P T=some vs)(hd:Nat.ble (dd+1) e.n=true)(h:WL P e ops rest ((dd, .pt st.length 0)::env) (st++ [.row T (vs.map λv=> .d (.v v))]) R):WL P e ops (⟨some dd, .alloc T,ty,pos,after,none⟩::rest) env st R:=WL.s (ux hz).does (Wt.none rfl) rfl hd h
theorem Tv{a b:List AO}(h:SLe a b:=by first|exact SLe.refl _|repeat' (first|exact rfl|exact Le.refl _|exact Le.nil|exact Le.u _|exact Le.fs _|exact Les.refl _|exact trivial|refine fO ?_|refine b9 ?_|refine Le.fnc ?_ ?_|refine⟨?_,?_⟩)):SLe a b:=h
theorem Cb{b c:Bool}(h:b=c):D.v (Value.bool b)=D.v (Value.bool c):=by rw[h]
theorem Re{α:Type}{a:α}{l l':List α}(k:l=l'):a::l=a::l':=by rw[k]
theorem Kv{n:Nat}{l:List AO}(h:da n l=true:=by first|exact rfl|repeat' (first|exact rfl|refine ab rfl ?_|refine ab (qv _ _ _ _ _ _) ?_|refine ab (sB _ _ _ _ _ _) ?_|refine ab (vP _ _ _ _ _ _ _ rfl) ?_)):da n l=true:=h
theorem Sb{a b:Env}(h:Sub a b:=by
 repeat' (first|exact Sub.nil _|refine Sub.cons rfl ?_ ?_|exact Le.refl _|exact Le.nil|exact Le.u _|exact Le.fs _|exact Les.refl _|exact trivial|refine fO ?_|refine b9 ?_|refine Le.fnc ?_ ?_|refine⟨?_,?_⟩)):Sub a b:=h
section
universe uu
variable{β:Sort uu}{z:β}{n:Nat}{α0 α1 α2 α3 α4 α5 α6 α7 α8 α9 α10 α11 α12 α13 α14 α15 α16 α17 α18 α19 α20 α21 α22 α23 α24 α25 α26 α27 α28 α29 α30 α31 α32 α33 α34 α35:Type}
theorem Jn0(A:Env)(S:List AO){K:Unit->β}{F:(Unit->β)->β}(h:al K F=z)(h1:∀k:Unit->β,F k=z->WC P e x (.lp (λu v=>k ()=z/\Sub (A) u/\SLe v (S)) κ) env st)(h2:K ()=z->WC P e y κ (A) (S)):WC P e (.seq x y) κ env st:=by refine aK _ (h1 K h) ?_;rintro u v ⟨h,hs,hw⟩;exact WC.sub hs (WC.weak hw (h2 h))
theorem En0{A:Env}{S:List AO}{k:Unit->β}(h:k ()=z)(h0:Sub (A) env:=by exact Sb)(h1:SLe st (S):=by exact Tv):WE P e .normal (.lp (λu v=>k ()=z/\Sub (A) u/\SLe v (S)) κ) env st:=bZ ⟨h,h0,h1⟩
theorem Jn1(A:α0->Env)(S:α0->List AO){K:α0->β}{F:(α0->β)->β}(h:al K F=z)(h1:∀k:α0->β,F k=z->WC P e x (.lp (λu v=>∃x0,k x0=z/\Sub (A x0) u/\SLe v (S x0)) κ) env st)(h2:∀x0,K x0=z->WC P e y κ (A x0) (S x0)):WC P e (.seq x y) κ env st:=by refine aK _ (h1 K h) ?_;rintro u v ⟨x0,h,hs,hw⟩;exact WC.sub hs (WC.weak hw (h2 x0 h))
theorem Ln1(A:α0->Env)(S:α0->List AO)(L:Nat->α0->β){N:Nat}{i0:α0}(h:L N i0=z)(hz:∀x0,L 0 x0=z->False)(hs':∀n x0,L (n+1) x0=z->WC P e x (.lp (λu v=>∃y,(∃x0,L y x0=z/\Sub (A x0) u/\SLe v (S x0))/\y<n+1) κ) (A x0) (S x0))(h0:Sub (A i0) env:=by exact Sb)(h1:SLe st (S i0):=by exact Tv):WC P e (.loop x) κ env st:=by
 refine aV (λn u v=>∃x0,L n x0=z/\Sub (A x0) u/\SLe v (S x0)) (λn=>n) N ⟨_,h,h0,h1⟩ ?_;rintro n u v ⟨x0,h,hs,hw⟩;rcases n with _|n
 exact(hz x0 h).elim;exact WC.sub hs (WC.weak hw (hs' n x0 h))
theorem En1{A:α0->Env}{S:α0->List AO}{k:α0->β}{i0:α0}(h:k i0=z)(h0:Sub (A i0) env:=by exact Sb)(h1:SLe st (S i0):=by exact Tv):WE P e .normal (.lp (λu v=>∃x0,k x0=z/\Sub (A x0) u/\SLe v (S x0)) κ) env st:=bZ ⟨_,h,h0,h1⟩
theorem Fn1{A:α0->Env}{S:α0->List AO}{L:Nat->α0->β}{i0:α0}(h:L n i0=z)(h0:Sub (A i0) env:=by exact Sb)(h1:SLe st (S i0):=by exact Tv):WE P e .normal (.lp (λu v=>∃y,(∃x0,L y x0=z/\Sub (A x0) u/\SLe v (S x0))/\y<n+1) κ) env st:=bZ ⟨n,⟨_,h,h0,h1⟩,Nat.lt_succ_self n⟩
theorem Jn2(A:α0->α1->Env)(S:α0->α1->List AO){K:α0->α1->β}{F:(α0->α1->β)->β}(h:al K F=z)(h1:∀k:α0->α1->β,F k=z->WC P e x (.lp (λu v=>∃x0 x1,k x0 x1=z/\Sub (A x0 x1) u/\SLe v (S x0 x1)) κ) env st)(h2:∀x0 x1,K x0 x1=z->WC P e y κ (A x0 x1) (S x0 x1)):WC P e (.seq x y) κ env st:=by refine aK _ (h1 K h) ?_;rintro u v ⟨x0,x1,h,hs,hw⟩;exact WC.sub hs (WC.weak hw (h2 x0 x1 h))
theorem Ln2(A:α0->α1->Env)(S:α0->α1->List AO)(L:Nat->α0->α1->β){N:Nat}{i0:α0}{i1:α1}(h:L N i0 i1=z)(hz:∀x0 x1,L 0 x0 x1=z->False)(hs':∀n x0 x1,L (n+1) x0 x1=z->WC P e x (.lp (λu v=>∃y,(∃x0 x1,L y x0 x1=z/\Sub (A x0 x1) u/\SLe v (S x0 x1))/\y<n+1) κ) (A x0 x1) (S x0 x1))(h0:Sub (A i0 i1) env:=by exact Sb)(h1:SLe st (S i0 i1):=by exact Tv):WC P e (.loop x) κ env st:=by
 refine aV (λn u v=>∃x0 x1,L n x0 x1=z/\Sub (A x0 x1) u/\SLe v (S x0 x1)) (λn=>n) N ⟨_,_,h,h0,h1⟩ ?_;rintro n u v ⟨x0,x1,h,hs,hw⟩;rcases n with _|n
 exact(hz x0 x1 h).elim;exact WC.sub hs (WC.weak hw (hs' n x0 x1 h))
theorem En2{A:α0->α1->Env}{S:α0->α1->List AO}{k:α0->α1->β}{i0:α0}{i1:α1}(h:k i0 i1=z)(h0:Sub (A i0 i1) env:=by exact Sb)(h1:SLe st (S i0 i1):=by exact Tv):WE P e .normal (.lp (λu v=>∃x0 x1,k x0 x1=z/\Sub (A x0 x1) u/\SLe v (S x0 x1)) κ) env st:=bZ ⟨_,_,h,h0,h1⟩
theorem Fn2{A:α0->α1->Env}{S:α0->α1->List AO}{L:Nat->α0->α1->β}{i0:α0}{i1:α1}(h:L n i0 i1=z)(h0:Sub (A i0 i1) env:=by exact Sb)(h1:SLe st (S i0 i1):=by exact Tv):WE P e .normal (.lp (λu v=>∃y,(∃x0 x1,L y x0 x1=z/\Sub (A x0 x1) u/\SLe v (S x0 x1))/\y<n+1) κ) env st:=bZ ⟨n,⟨_,_,h,h0,h1⟩,Nat.lt_succ_self n⟩
theorem Jn3(A:α0->α1->α2->Env)(S:α0->α1->α2->List AO){K:α0->α1->α2->β}{F:(α0->α1->α2->β)->β}(h:al K F=z)(h1:∀k:α0->α1->α2->β,F k=z->WC P e x (.lp (λu v=>∃x0 x1 x2,k x0 x1 x2=z/\Sub (A x0 x1 x2) u/\SLe v (S x0 x1 x2)) κ) env st)(h2:∀x0 x1 x2,K x0 x1 x2=z->WC P e y κ (A x0 x1 x2) (S x0 x1 x2)):WC P e (.seq x y) κ env st:=by refine aK _ (h1 K h) ?_;rintro u v ⟨x0,x1,x2,h,hs,hw⟩;exact WC.sub hs (WC.weak hw (h2 x0 x1 x2 h))
theorem Ln3(A:α0->α1->α2->Env)(S:α0->α1->α2->List AO)(L:Nat->α0->α1->α2->β){N:Nat}{i0:α0}{i1:α1}{i2:α2}(h:L N i0 i1 i2=z)(hz:∀x0 x1 x2,L 0 x0 x1 x2=z->False)(hs':∀n x0 x1 x2,L (n+1) x0 x1 x2=z->WC P e x (.lp (λu v=>∃y,(∃x0 x1 x2,L y x0 x1 x2=z/\Sub (A x0 x1 x2) u/\SLe v (S x0 x1 x2))/\y<n+1) κ) (A x0 x1 x2) (S x0 x1 x2))(h0:Sub (A i0 i1 i2) env:=by exact Sb)(h1:SLe st (S i0 i1 i2):=by exact Tv):WC P e (.loop x) κ env st:=by
 refine aV (λn u v=>∃x0 x1 x2,L n x0 x1 x2=z/\Sub (A x0 x1 x2) u/\SLe v (S x0 x1 x2)) (λn=>n) N ⟨_,_,_,h,h0,h1⟩ ?_;rintro n u v ⟨x0,x1,x2,h,hs,hw⟩;rcases n with _|n
 exact(hz x0 x1 x2 h).elim;exact WC.sub hs (WC.weak hw (hs' n x0 x1 x2 h))
theorem En3{A:α0->α1->α2->Env}{S:α0->α1->α2->List AO}{k:α0->α1->α2->β}{i0:α0}{i1:α1}{i2:α2}(h:k i0 i1 i2=z)(h0:Sub (A i0 i1 i2) env:=by exact Sb)(h1:SLe st (S i0 i1 i2):=by exact Tv):WE P e .normal (.lp (λu v=>∃x0 x1 x2,k x0 x1 x2=z/\Sub (A x0 x1 x2) u/\SLe v (S x0 x1 x2)) κ) env st:=bZ ⟨_,_,_,h,h0,h1⟩
theorem Fn3{A:α0->α1->α2->Env}{S:α0->α1->α2->List AO}{L:Nat->α0->α1->α2->β}{i0:α0}{i1:α1}{i2:α2}(h:L n i0 i1 i2=z)(h0:Sub (A i0 i1 i2) env:=by exact Sb)(h1:SLe st (S i0 i1 i2):=by exact Tv):WE P e .normal (.lp (λu v=>∃y,(∃x0 x1 x2,L y x0 x1 x2=z/\Sub (A x0 x1 x2) u/\SLe v (S x0 x1 x2))/\y<n+1) κ) env st:=bZ ⟨n,⟨_,_,_,h,h0,h1⟩,Nat.lt_succ_self n⟩
theorem Jn4(A:α0->α1->α2->α3->Env)(S:α0->α1->α2->α3->List AO){K:α0->α1->α2->α3->β}{F:(α0->α1->α2->α3->β)->β}(h:al K F=z)(h1:∀k:α0->α1->α2->α3->β,F k=z->WC P e x (.lp (λu v=>∃x0 x1 x2 x3,k x0 x1 x2 x3=z/\Sub (A x0 x1 x2 x3) u/\SLe v (S x0 x1 x2 x3)) κ) env st)(h2:∀x0 x1 x2 x3,K x0 x1 x2 x3=z->WC P e y κ (A x0 x1 x2 x3) (S x0 x1 x2 x3)):WC P e (.seq x y) κ env st:=by refine aK _ (h1 K h) ?_;rintro u v ⟨x0,x1,x2,x3,h,hs,hw⟩;exact WC.sub hs (WC.weak hw (h2 x0 x1 x2 x3 h))
theorem Ln4(A:α0->α1->α2->α3->Env)(S:α0->α1->α2->α3->List AO)(L:Nat->α0->α1->α2->α3->β){N:Nat}{i0:α0}{i1:α1}{i2:α2}{i3:α3}(h:L N i0 i1 i2 i3=z)(hz:∀x0 x1 x2 x3,L 0 x0 x1 x2 x3=z->False)(hs':∀n x0 x1 x2 x3,L (n+1) x0 x1 x2 x3=z->WC P e x (.lp (λu v=>∃y,(∃x0 x1 x2 x3,L y x0 x1 x2 x3=z/\Sub (A x0 x1 x2 x3) u/\SLe v (S x0 x1 x2 x3))/\y<n+1) κ) (A x0 x1 x2 x3) (S x0 x1 x2 x3))(h0:Sub (A i0 i1 i2 i3) env:=by exact Sb)(h1:SLe st (S i0 i1 i2 i3):=by exact Tv):WC P e (.loop x) κ env st:=by
 refine aV (λn u v=>∃x0 x1 x2 x3,L n x0 x1 x2 x3=z/\Sub (A x0 x1 x2 x3) u/\SLe v (S x0 x1 x2 x3)) (λn=>n) N ⟨_,_,_,_,h,h0,h1⟩ ?_;rintro n u v ⟨x0,x1,x2,x3,h,hs,hw⟩;rcases n with _|n
 exact(hz x0 x1 x2 x3 h).elim;exact WC.sub hs (WC.weak hw (hs' n x0 x1 x2 x3 h))
theorem En4{A:α0->α1->α2->α3->Env}{S:α0->α1->α2->α3->List AO}{k:α0->α1->α2->α3->β}{i0:α0}{i1:α1}{i2:α2}{i3:α3}(h:k i0 i1 i2 i3=z)(h0:Sub (A i0 i1 i2 i3) env:=by exact Sb)(h1:SLe st (S i0 i1 i2 i3):=by exact Tv):WE P e .normal (.lp (λu v=>∃x0 x1 x2 x3,k x0 x1 x2 x3=z/\Sub (A x0 x1 x2 x3) u/\SLe v (S x0 x1 x2 x3)) κ) env st:=bZ ⟨_,_,_,_,h,h0,h1⟩
theorem Fn4{A:α0->α1->α2->α3->Env}{S:α0->α1->α2->α3->List AO}{L:Nat->α0->α1->α2->α3->β}{i0:α0}{i1:α1}{i2:α2}{i3:α3}(h:L n i0 i1 i2 i3=z)(h0:Sub (A i0 i1 i2 i3) env:=by exact Sb)(h1:SLe st (S i0 i1 i2 i3):=by exact Tv):WE P e .normal (.lp (λu v=>∃y,(∃x0 x1 x2 x3,L y x0 x1 x2 x3=z/\Sub (A x0 x1 x2 x3) u/\SLe v (S x0 x1 x2 x3))/\y<n+1) κ) env st:=bZ ⟨n,⟨_,_,_,_,h,h0,h1⟩,Nat.lt_succ_self n⟩
theorem Jn5(A:α0->α1->α2->α3->α4->Env)(S:α0->α1->α2->α3->α4->List AO){K:α0->α1->α2->α3->α4->β}{F:(α0->α1->α2->α3->α4->β)->β}(h:al K F=z)(h1:∀k:α0->α1->α2->α3->α4->β,F k=z->WC P e x (.lp (λu v=>∃x0 x1 x2 x3 x4,k x0 x1 x2 x3 x4=z/\Sub (A x0 x1 x2 x3 x4) u/\SLe v (S x0 x1 x2 x3 x4)) κ) env st)(h2:∀x0 x1 x2 x3 x4,K x0 x1 x2 x3 x4=z->WC P e y κ (A x0 x1 x2 x3 x4) (S x0 x1 x2 x3 x4)):WC P e (.seq x y) κ env st:=by refine aK _ (h1 K h) ?_;rintro u v ⟨x0,x1,x2,x3,x4,h,hs,hw⟩;exact WC.sub hs (WC.weak hw (h2 x0 x1 x2 x3 x4 h))
theorem Ln5(A:α0->α1->α2->α3->α4->Env)(S:α0->α1->α2->α3->α4->List AO)(L:Nat->α0->α1->α2->α3->α4->β){N:Nat}{i0:α0}{i1:α1}{i2:α2}{i3:α3}{i4:α4}(h:L N i0 i1 i2 i3 i4=z)(hz:∀x0 x1 x2 x3 x4,L 0 x0 x1 x2 x3 x4=z->False)(hs':∀n x0 x1 x2 x3 x4,L (n+1) x0 x1 x2 x3 x4=z->WC P e x (.lp (λu v=>∃y,(∃x0 x1 x2 x3 x4,L y x0 x1 x2 x3 x4=z/\Sub (A x0 x1 x2 x3 x4) u/\SLe v (S x0 x1 x2 x3 x4))/\y<n+1) κ) (A x0 x1 x2 x3 x4) (S x0 x1 x2 x3 x4))(h0:Sub (A i0 i1 i2 i3 i4) env:=by exact Sb)(h1:SLe st (S i0 i1 i2 i3 i4):=by exact Tv):WC P e (.loop x) κ env st:=by
 refine aV (λn u v=>∃x0 x1 x2 x3 x4,L n x0 x1 x2 x3 x4=z/\Sub (A x0 x1 x2 x3 x4) u/\SLe v (S x0 x1 x2 x3 x4)) (λn=>n) N ⟨_,_,_,_,_,h,h0,h1⟩ ?_;rintro n u v ⟨x0,x1,x2,x3,x4,h,hs,hw⟩;rcases n with _|n
 exact(hz x0 x1 x2 x3 x4 h).elim;exact WC.sub hs (WC.weak hw (hs' n x0 x1 x2 x3 x4 h))
theorem En5{A:α0->α1->α2->α3->α4->Env}{S:α0->α1->α2->α3->α4->List AO}{k:α0->α1->α2->α3->α4->β}{i0:α0}{i1:α1}{i2:α2}{i3:α3}{i4:α4}(h:k i0 i1 i2 i3 i4=z)(h0:Sub (A i0 i1 i2 i3 i4) env:=by exact Sb)(h1:SLe st (S i0 i1 i2 i3 i4):=by exact Tv):WE P e .normal (.lp (λu v=>∃x0 x1 x2 x3 x4,k x0 x1 x2 x3 x4=z/\Sub (A x0 x1 x2 x3 x4) u/\SLe v (S x0 x1 x2 x3 x4)) κ) env st:=bZ ⟨_,_,_,_,_,h,h0,h1⟩
theorem Fn5{A:α0->α1->α2->α3->α4->Env}{S:α0->α1->α2->α3->α4->List AO}{L:Nat->α0->α1->α2->α3->α4->β}{i0:α0}{i1:α1}{i2:α2}{i3:α3}{i4:α4}(h:L n i0 i1 i2 i3 i4=z)(h0:Sub (A i0 i1 i2 i3 i4) env:=by exact Sb)(h1:SLe st (S i0 i1 i2 i3 i4):=by exact Tv):WE P e .normal (.lp (λu v=>∃y,(∃x0 x1 x2 x3 x4,L y x0 x1 x2 x3 x4=z/\Sub (A x0 x1 x2 x3 x4) u/\SLe v (S x0 x1 x2 x3 x4))/\y<n+1) κ) env st:=bZ ⟨n,⟨_,_,_,_,_,h,h0,h1⟩,Nat.lt_succ_self n⟩
theorem Fn6{A:α0->α1->α2->α3->α4->α5->Env}{S:α0->α1->α2->α3->α4->α5->List AO}{L:Nat->α0->α1->α2->α3->α4->α5->β}{i0:α0}{i1:α1}{i2:α2}{i3:α3}{i4:α4}{i5:α5}(h:L n i0 i1 i2 i3 i4 i5=z)(h0:Sub (A i0 i1 i2 i3 i4 i5) env:=by exact Sb)(h1:SLe st (S i0 i1 i2 i3 i4 i5):=by exact Tv):WE P e .normal (.lp (λu v=>∃y,(∃x0 x1 x2 x3 x4 x5,L y x0 x1 x2 x3 x4 x5=z/\Sub (A x0 x1 x2 x3 x4 x5) u/\SLe v (S x0 x1 x2 x3 x4 x5))/\y<n+1) κ) env st:=bZ ⟨n,⟨_,_,_,_,_,_,h,h0,h1⟩,Nat.lt_succ_self n⟩
theorem Ln7(A:α0->α1->α2->α3->α4->α5->α6->Env)(S:α0->α1->α2->α3->α4->α5->α6->List AO)(L:Nat->α0->α1->α2->α3->α4->α5->α6->β){N:Nat}{i0:α0}{i1:α1}{i2:α2}{i3:α3}{i4:α4}{i5:α5}{i6:α6}(h:L N i0 i1 i2 i3 i4 i5 i6=z)(hz:∀x0 x1 x2 x3 x4 x5 x6,L 0 x0 x1 x2 x3 x4 x5 x6=z->False)(hs':∀n x0 x1 x2 x3 x4 x5 x6,L (n+1) x0 x1 x2 x3 x4 x5 x6=z->WC P e x (.lp (λu v=>∃y,(∃x0 x1 x2 x3 x4 x5 x6,L y x0 x1 x2 x3 x4 x5 x6=z/\Sub (A x0 x1 x2 x3 x4 x5 x6) u/\SLe v (S x0 x1 x2 x3 x4 x5 x6))/\y<n+1) κ) (A x0 x1 x2 x3 x4 x5 x6) (S x0 x1 x2 x3 x4 x5 x6))(h0:Sub (A i0 i1 i2 i3 i4 i5 i6) env:=by exact Sb)(h1:SLe st (S i0 i1 i2 i3 i4 i5 i6):=by exact Tv):WC P e (.loop x) κ env st:=by
 refine aV (λn u v=>∃x0 x1 x2 x3 x4 x5 x6,L n x0 x1 x2 x3 x4 x5 x6=z/\Sub (A x0 x1 x2 x3 x4 x5 x6) u/\SLe v (S x0 x1 x2 x3 x4 x5 x6)) (λn=>n) N ⟨_,_,_,_,_,_,_,h,h0,h1⟩ ?_;rintro n u v ⟨x0,x1,x2,x3,x4,x5,x6,h,hs,hw⟩;rcases n with _|n
 exact(hz x0 x1 x2 x3 x4 x5 x6 h).elim;exact WC.sub hs (WC.weak hw (hs' n x0 x1 x2 x3 x4 x5 x6 h))
theorem En7{A:α0->α1->α2->α3->α4->α5->α6->Env}{S:α0->α1->α2->α3->α4->α5->α6->List AO}{k:α0->α1->α2->α3->α4->α5->α6->β}{i0:α0}{i1:α1}{i2:α2}{i3:α3}{i4:α4}{i5:α5}{i6:α6}(h:k i0 i1 i2 i3 i4 i5 i6=z)(h0:Sub (A i0 i1 i2 i3 i4 i5 i6) env:=by exact Sb)(h1:SLe st (S i0 i1 i2 i3 i4 i5 i6):=by exact Tv):WE P e .normal (.lp (λu v=>∃x0 x1 x2 x3 x4 x5 x6,k x0 x1 x2 x3 x4 x5 x6=z/\Sub (A x0 x1 x2 x3 x4 x5 x6) u/\SLe v (S x0 x1 x2 x3 x4 x5 x6)) κ) env st:=bZ ⟨_,_,_,_,_,_,_,h,h0,h1⟩
theorem Fn7{A:α0->α1->α2->α3->α4->α5->α6->Env}{S:α0->α1->α2->α3->α4->α5->α6->List AO}{L:Nat->α0->α1->α2->α3->α4->α5->α6->β}{i0:α0}{i1:α1}{i2:α2}{i3:α3}{i4:α4}{i5:α5}{i6:α6}(h:L n i0 i1 i2 i3 i4 i5 i6=z)(h0:Sub (A i0 i1 i2 i3 i4 i5 i6) env:=by exact Sb)(h1:SLe st (S i0 i1 i2 i3 i4 i5 i6):=by exact Tv):WE P e .normal (.lp (λu v=>∃y,(∃x0 x1 x2 x3 x4 x5 x6,L y x0 x1 x2 x3 x4 x5 x6=z/\Sub (A x0 x1 x2 x3 x4 x5 x6) u/\SLe v (S x0 x1 x2 x3 x4 x5 x6))/\y<n+1) κ) env st:=bZ ⟨n,⟨_,_,_,_,_,_,_,h,h0,h1⟩,Nat.lt_succ_self n⟩
theorem Jn8(A:α0->α1->α2->α3->α4->α5->α6->α7->Env)(S:α0->α1->α2->α3->α4->α5->α6->α7->List AO){K:α0->α1->α2->α3->α4->α5->α6->α7->β}{F:(α0->α1->α2->α3->α4->α5->α6->α7->β)->β}(h:al K F=z)(h1:∀k:α0->α1->α2->α3->α4->α5->α6->α7->β,F k=z->WC P e x (.lp (λu v=>∃x0 x1 x2 x3 x4 x5 x6 x7,k x0 x1 x2 x3 x4 x5 x6 x7=z/\Sub (A x0 x1 x2 x3 x4 x5 x6 x7) u/\SLe v (S x0 x1 x2 x3 x4 x5 x6 x7)) κ) env st)(h2:∀x0 x1 x2 x3 x4 x5 x6 x7,K x0 x1 x2 x3 x4 x5 x6 x7=z->WC P e y κ (A x0 x1 x2 x3 x4 x5 x6 x7) (S x0 x1 x2 x3 x4 x5 x6 x7)):WC P e (.seq x y) κ env st:=by refine aK _ (h1 K h) ?_;rintro u v ⟨x0,x1,x2,x3,x4,x5,x6,x7,h,hs,hw⟩;exact WC.sub hs (WC.weak hw (h2 x0 x1 x2 x3 x4 x5 x6 x7 h))
theorem En8{A:α0->α1->α2->α3->α4->α5->α6->α7->Env}{S:α0->α1->α2->α3->α4->α5->α6->α7->List AO}{k:α0->α1->α2->α3->α4->α5->α6->α7->β}{i0:α0}{i1:α1}{i2:α2}{i3:α3}{i4:α4}{i5:α5}{i6:α6}{i7:α7}(h:k i0 i1 i2 i3 i4 i5 i6 i7=z)(h0:Sub (A i0 i1 i2 i3 i4 i5 i6 i7) env:=by exact Sb)(h1:SLe st (S i0 i1 i2 i3 i4 i5 i6 i7):=by exact Tv):WE P e .normal (.lp (λu v=>∃x0 x1 x2 x3 x4 x5 x6 x7,k x0 x1 x2 x3 x4 x5 x6 x7=z/\Sub (A x0 x1 x2 x3 x4 x5 x6 x7) u/\SLe v (S x0 x1 x2 x3 x4 x5 x6 x7)) κ) env st:=bZ ⟨_,_,_,_,_,_,_,_,h,h0,h1⟩
theorem Fn8{A:α0->α1->α2->α3->α4->α5->α6->α7->Env}{S:α0->α1->α2->α3->α4->α5->α6->α7->List AO}{L:Nat->α0->α1->α2->α3->α4->α5->α6->α7->β}{i0:α0}{i1:α1}{i2:α2}{i3:α3}{i4:α4}{i5:α5}{i6:α6}{i7:α7}(h:L n i0 i1 i2 i3 i4 i5 i6 i7=z)(h0:Sub (A i0 i1 i2 i3 i4 i5 i6 i7) env:=by exact Sb)(h1:SLe st (S i0 i1 i2 i3 i4 i5 i6 i7):=by exact Tv):WE P e .normal (.lp (λu v=>∃y,(∃x0 x1 x2 x3 x4 x5 x6 x7,L y x0 x1 x2 x3 x4 x5 x6 x7=z/\Sub (A x0 x1 x2 x3 x4 x5 x6 x7) u/\SLe v (S x0 x1 x2 x3 x4 x5 x6 x7))/\y<n+1) κ) env st:=bZ ⟨n,⟨_,_,_,_,_,_,_,_,h,h0,h1⟩,Nat.lt_succ_self n⟩
end
theorem RO{id:Nat}{l:List Oper}(rs:List AV)(tc:List (List Nat))(es:List Nat)(L:List (List AO))(plan:List (List Nat×List Nat×List Nat))(hm:P.follows .mixedOrders=true)(hok:lm l tc es plan=true)(hrs:Nat.beq rs.length l.length=true)(hes:es.all (λy=>Nat.blt y l.length)=true)
  (hobs:Obs P e l rs env (λc=>List.getD (st::L) c []) es 0 l plan)(h:WE P e .normal κ (FL env (λk=>Nat.blt k l.length) (cq l rs 0)) (List.getD (st::L) es.length []))(hnf:cv l=true:=by kernel_rfl):WC P e (.region id l.toArray true) κ env st:=lY rs tc es _ plan hm hok hrs hes rfl hobs h hnf
def vT(x:Nat):List Nat->List Nat
 |[]=> [x]
 |y::l=>bif Nat.beq x y then y::l else y::vT x l
def tcF(l:List Oper):List (List Nat):=l.foldl (λacc o=>acc++ [o.after.toList.foldl (λr e=>bif Region.binds .any e then(acc.getD e.on []).foldl (λr x=>vT x r) (vT e.on r) else r) []]) []
theorem RT{id:Nat}{l:List Oper}(rs:List AV)(es:List Nat)(L:List (List AO))(plan:List (List Nat×List Nat×List Nat))(hm:P.follows .mixedOrders=true)(hok:lm l (tcF l) es plan=true)(hrs:Nat.beq rs.length l.length=true)(hes:es.all (λy=>Nat.blt y l.length)=true)
  (hobs:Obs P e l rs env (λc=>List.getD (st::L) c []) es 0 l plan)(h:WE P e .normal κ (FL env (λk=>Nat.blt k l.length) (cq l rs 0)) (List.getD (st::L) es.length []))(hnf:cv l=true:=by kernel_rfl):WC P e (.region id l.toArray true) κ env st:=RO rs (tcF l) es L plan hm hok hrs hes hobs h hnf
theorem O1 [T:Tys P]{l:List Oper}{rs:List AV}{base:Env}{sts:Nat->List AO}{k d c:Nat}{o:Oper}{pk bk:List Nat}{up:Bool}{r:AV}(hd:o.dst=some d)(h:∀F:Env,jH T.t e.n l.toArray (sts c) (iD l rs base pk bk++F) o=some ((d,r)::(iD l rs base pk bk++F)))(hr:rs[k]? =some r)(hu:up=false):ObC P e l rs base sts k o pk bk up [c]:=
 ⟨λF=>ii T.h (h F) (lu hd hr (by rw[hu];rfl)),trivial⟩
theorem O2 [T:Tys P]{l:List Oper}{rs:List AV}{base:Env}{sts:Nat->List AO}{k d c c':Nat}{o:Oper}{pk bk:List Nat}{r:AV}(hd:o.dst=some d)(h:∀F:Env,jH T.t e.n l.toArray (sts c) (iD l rs base pk bk++F) o=some ((d,r)::(iD l rs base pk bk++F)))(hr:rs[k]? =some r)(hu:c'=c):Ob P e l rs base sts k o pk bk c c':=
 λF=>ii T.h (h F) (lu hd hr (by rw[hu]))
def t6{α:Type}:List α->Option (List α)
 |[]=>some []
 |a::l=>match t6 l with
  |some l'=>some (a::l')
  |none=>none
theorem qp{α:Type}:∀{l l':List α},t6 l=some l'->l=l'
 |[],l',h=>inS h
 |a::l,l',h=>by
  dsimp only[t6] at h;split at h;rename_i hl;rw[qp hl];exact inS h;cases h
def vD:AO->Option AO
 | .row T cs=>match t6 cs with
  |some c=>some (.row T c)
  |none=>none
 |o=>some o
theorem tZ{o o':AO}(h:vD o=some o'):o=o':=by
 cases o with
 |row T cs=>dsimp only[vD] at h;split at h;rename_i hl;rw[qp hl];exact inS h;cases h
 |_=>exact inS h
def so:List AO->Option (List AO)
 |[]=>some []
 |a::l=>match vD a,so l with
  |some a',some l'=>some (a'::l')
  |_,_=>none
theorem m5:∀{l l':List AO},so l=some l'->l=l'
 |[],l',h=>inS h
 |a::l,l',h=>by
  dsimp only[so] at h;split at h;rename_i ha hl;rw[tZ ha,m5 hl];exact inS h;cases h
theorem St{st':List AO}(h:so st=some st')(k:WL P e ops rest env st' R):WL P e ops rest env st R:=WL.st (m5 h) k
end
end Go.Sk
namespace Go.Sk
open Go.RowKit (Below)
section
variable{P:Program}{e:En}{l:List Oper}{rs:List AV}{base:Env}{sts:List Bool->List AO->Prop}{es:List Nat}
end
end Go.Sk
namespace Go.Sk
open Go.RowKit (Below)
section
variable{P:Program}{env:Env}{st:List AO}{dst:Option Tmp}{ty:TypeId}{pos:String}{after:Array Edge}{guard:Option (Nat×Bool)}
end
end Go.Sk
namespace Go.Sk
open Go.RowKit (Below)
section
variable{P:Program}{env:Env}{st:List AO}{dst:Option Tmp}{ty:TypeId}{pos:String}{after:Array Edge}{guard:Option (Nat×Bool)}
end
section
variable{P:Program}{env:Env}{st:List AO}{dst:Option Tmp}{ty:TypeId}{pos:String}{after:Array Edge}{guard:Option (Nat×Bool)}
end
section
variable{P:Program}{env:Env}{st:List AO}{dst:Option Tmp}{ty:TypeId}{pos:String}{after:Array Edge}{guard:Option (Nat×Bool)}
end
end Go.Sk
namespace Go.Sk
open Go.RowKit (Below)
section
variable{P:Program}{t:Ty}{env:Env}{st:List AO}{dst:Option Tmp}{ty:TypeId}{pos:String}{after:Array Edge}{guard:Option (Nat×Bool)}
end
section
variable{P:Program}{t:Ty}{env:Env}{st:List AO}{dst:Option Tmp}{ty:TypeId}{pos:String}{after:Array Edge}{guard:Option (Nat×Bool)}
end
end Go.Sk
namespace Go.Sk
open Go.RowKit (Below)
theorem wh{m φ w}{x:D}{v:Value}(h:D.gnd x=some v):RA m φ w (.d x) v:=by simp only[RA];exact ni h
section
variable{P:Program}{e:En}{ops:Array Oper}{l rest:List Oper}{K:Ko}{env:Env}{st:List AO}{R:Env->List AO->Prop}{dst:Option Tmp}{ty:TypeId}{pos:String}{after:Array Edge}{guard:Option (Nat×Bool)}
theorem nS{κ α:Type}[DecidableEq κ]{T kt et:TypeId}{x ki:Operand}{id:Nat}(kf:κ->Value)(g:α->AV)(L:List (κ×α)){k:κ}{z:α}{zv:Value}{ka:AV}{vs:List Value}{r:AV}{b:Bool}(hT:P.underlying T=some (.map kt et))(hK:KeyS P kt kf)
  (hx:opv env x=some (.mp id))(hi:st[id]? =some (mpO kf g L))(hk:opv env ki=some ka)(hl:Le ka (.d (.ag (vs.map D.v))))(hkf:kf k= .agg ⟨vs⟩)(hz:(P.info? et).bind (·.zero)=some zv)(hgz:∀m φ w,RA m φ w (g z) zv)(hr:g ((ac L k).getD z)=r)(hb:(ac L k).isSome=b):
  Yields P env st ⟨dst, .lookup T x ki true,ty,pos,after,guard⟩ (.tu [r, .d (.v (.bool b))]):=λm φ a w hs he=>by
 subst hr;subst hb;obtain⟨b,h1,h2⟩:=d7 he hx;obtain⟨b',hbb,h0,l,cl,g1,g2,g3,g4⟩:=hs.obj id _ _ hi h1;simp only[Cz.blk.injEq] at hbb;subst hbb;have hkeys:l.map (·.key)=L.map (λp=>kf p.1):=by rw[g2];simp
 have hkv:=(mZ he hk hl).trans hkf.symm;have hlt:=bK g1;have tu:∀{x:AV}{v:Value}{c:Bool},RA m φ w x v->RA m φ w (.tu [x, .d (.v (.bool c))]) (.tuple #[v, .bool c]):=λh=>by
  simp only[RA];exact⟨_,rfl,aC h (aC RAv bB)⟩
 cases hinf:P.info? et with
 |none=>simp[hinf] at hz
 |some i=>
  simp only[hinf,bnS] at hz;rcases dV hK k L l 0 hkeys with⟨q1,q2,_⟩|⟨j,e,y,q1,q2,q3,q4,q5,_⟩
  refine⟨.tuple #[zv, .bool false],by rw[q1,Option.getD_none];exact tu (hgz m φ w),λw' hb=>?_⟩;have g1':w'.heap[b]? =some (.map ⟨l⟩ cl):=by rw[hb.block b hlt];exact g1
  have hfk:=run_findKey_eq (P:=P) w' hK.wide (kf k) l;rw[q2 w'] at hfk;simp[execOp,Instr.lookup,h2,hkv,run_underlying hT,MapKept.run_getObj_map g1',hK.chk,hfk,zeroValue,typeInfo,hinf,hz,Result.andThen];have hval:RA m φ w (g y) e.val:=by
   have:(((L.map λp=>(kf p.1,g p.2)).map (·.2)))[j]? =some (g y):=by simp[q2]
   obtain⟨v',hv1,hv2⟩:=bQ g3 this;simp only[List.getElem?_map,q1,Option.map_some,ao] at hv1;rw[hv1];exact hv2
  refine⟨.tuple #[e.val, .bool true],by rw[q3,Option.getD_some];exact tu hval,λw' hb=>?_⟩;have g1':w'.heap[b]? =some (.map ⟨l⟩ cl):=by rw[hb.block b hlt];exact g1
  have hfk:=run_findKey_eq (P:=P) w' hK.wide (kf k) l;rw[q5 w'] at hfk;simp[execOp,Instr.lookup,h2,hkv,run_underlying hT,MapKept.run_getObj_map g1',hK.chk,hfk,Result.andThen]
theorem nr{κ α:Type}[DecidableEq κ]{T kt et:TypeId}{d:TypeDesc}{o:Oper}{x ki v:Operand}{id:Nat}(kf:κ->Value)(g:α->AV)(L:List (κ×α)){k:κ}{u:α}(ho:(o=⟨dst, .insert T x ki v,ty,pos,after,guard⟩)\/(o=⟨dst, .mapUpdate T x ki v,ty,pos,after,guard⟩))(hT:P.underlying T=some (.map kt et))(hd:P.underlying kt=some d)(hK:KeyF d kf)
  (hx:opv env x=some (.mp id))(hi:st[id]? =some (mpO kf g L))(hk:opv env ki=some (.d (.v (kf k)))){r0:AV}(hv:opv env v=some r0)(hlv:Le r0 (g u)):
  Does P env st o (.d (.v undef)) (st.set id (mpO kf g (ai L k u))):=λm φ a w hs he=>by
 obtain⟨b,h1,h2⟩:=d7 he hx;obtain⟨b',hbb,h0,l,cl,g1,g2,g3,g4⟩:=hs.obj id _ _ hi h1;simp only[Cz.blk.injEq] at hbb;subst hbb;have hkeys:l.map (·.key)=L.map (λp=>kf p.1):=by rw[g2];simp
 obtain⟨l',clock',r1,r2,r3,r4⟩:=gQ (P:=P) (k:=k) (u:=a.eval v) (w:=w) hT hd hK g1 hkeys u;have hru:=hlv m φ w _ (bc he hv);have hvals:RAs m φ w (((ai L k u).map λp=>(kf p.1,g p.2)).map (·.2)) (l'.map (·.val)):=by
  rw[List.map_map] at g3⊢;rcases r3 with⟨e1,e2⟩|⟨j,e1,e2⟩
  rw[e1,e2,List.map_append];exact aH g3 (aC hru bB);rw[e1,e2,List.map_set];exact gu g3 hru
 obtain⟨k1,k2⟩:=jh (clock':=clock') hs hi h1 (by rw[r2];simp) hvals (r4 g4);refine⟨undef,_,m,φ, .inr ⟨?_,rfl⟩,k1,k2,RAv⟩;have hkv:=aQ he hk;rcases ho with rfl|rfl<;>simp[execOp,h2,hkv,r1]
end
end Go.Sk
namespace Go.Sk
end Go.Sk
namespace Go.Sk
open Go.RowKit (Below)
section
variable{P:Program}{e:En}{ops:Array Oper}{l:List Oper}{env:Env}{st:List AO}{R:Env->List AO->Prop}{K:Ko}
end
section
variable{P:Program}{env:Env}{st:List AO}{dst:Option Tmp}{ty:TypeId}{pos:String}{after:Array Edge}{guard:Option (Nat×Bool)}
end
end Go.Sk
namespace Go.Sk
open Go.RowKit (Below)
section
variable{P:Program}{e:En}{ops:Array Oper}{l:List Oper}{env:Env}{st:List AO}{R:Env->List AO->Prop}{K:Ko}
end
end Go.Sk
namespace Go.Sk
open Go.RowKit (Below)
section
variable{P:Program}{env:Env}{st:List AO}{dst:Option Tmp}{ty:TypeId}{pos:String}{after:Array Edge}{guard:Option (Nat×Bool)}
end
end Go.Sk
namespace Go.Sk
open Go.RowKit (Below)
section
variable{κ α:Type}[DecidableEq κ]
def dc{β:Type}(g:α->β)(L:List (κ×α)):List (κ×β):=L.map λp=>(p.1,g p.2)
theorem gD{β:Type}(g:α->β):∀(L:List (κ×α))(k:κ),ac (dc g L) k=(ac L k).map g
 |[],_=>rfl
 |p::L,k=>by
  show(if p.1=k then some (g p.2) else ac (dc g L) k)=(if p.1=k then some p.2 else ac L k).map g;split;rfl;exact gD g L k
theorem mn{β:Type}(g:α->β):∀(L:List (κ×α))(k:κ)(x:α),ai (dc g L) k (g x)=dc g (ai L k x)
 |[],_,_=>rfl
 |p::L,k,x=>by
  show(if p.1=k then(k,g x)::dc g L else(p.1,g p.2)::ai (dc g L) k (g x))=dc g (if p.1=k then(k,x)::L else p::ai L k x);split;rfl;rw[mn g L k x];rfl
theorem aF:∀(L:List (κ×α))(k:κ)(x:α),ac (ai L k x) k=some x
 |[],k,x=>by simp[ai,ac]
 |p::L,k,x=>by
  unfold ai;split;simp[ac];rename_i h;unfold ac;rw[if_neg h];exact aF L k x
theorem mo:∀(L:List (κ×α))(k:κ)(x y:α),ai (ai L k x) k y=ai L k y
 |[],k,x,y=>by simp[ai]
 |p::L,k,x,y=>by
  by_cases h:p.1=k;simp[ai,h];simp[ai,h,mo L k x y]
end
section
variable{P:Program}{env:Env}{st:List AO}{dst:Option Tmp}{ty:TypeId}{pos:String}{after:Array Edge}{guard:Option (Nat×Bool)}
variable{κ α:Type}[DecidableEq κ]
abbrev mpK(kf:κ->Value)(g:α->AV)(L:List (κ×α))(k:κ)(o:AV):AO:=mpO kf (λx:AV=>x) (ai (dc g L) k o)
theorem jX(kf:κ->Value)(g:α->AV)(L:List (κ×α)):mpO kf g L=mpO kf (λx:AV=>x) (dc g L):=by simp[dc]
theorem sw(kf:κ->Value)(g:α->AV)(L:List (κ×α))(k:κ)(x:α):mpK kf g L k (g x)=mpO kf g (ai L k x):=by rw[jX,<-mn]
theorem ie{T kt et:TypeId}{d:TypeDesc}{x ki:Operand}{id:Nat}(kf:κ->Value)(g:α->AV)(L:List (κ×α)){k:κ}{zv:Value}(hn:ac L k=none)(hT:P.underlying T=some (.map kt et))(hd:P.underlying kt=some d)(hK:KeyF d kf)
  (hx:opv env x=some (.mp id))(hi:st[id]? =some (mpO kf g L))(hk:opv env ki=some (.d (.v (kf k))))(hz:(P.info? et).bind (·.zero)=some zv):
  Yields P env st ⟨dst, .lookup T x ki false,ty,pos,after,guard⟩ (.d (.v zv)):=by
 have h:=bi (P:=P) (env:=env) (st:=st) (dst:=dst) (ty:=ty) (pos:=pos) (after:=after) (guard:=guard) kf (λx:AV=>x) (dc g L) (z:= .d (.v zv)) hT hd hK hx (by rw[hi,jX]) hk hz rfl;rwa [gD,hn] at h
theorem ft{T kt et:TypeId}{d:TypeDesc}{x ki:Operand}{id:Nat}(kf:κ->Value)(g:α->AV)(L:List (κ×α)){k:κ}{o:AV}{zv:Value}(hT:P.underlying T=some (.map kt et))(hd:P.underlying kt=some d)(hK:KeyF d kf)
  (hx:opv env x=some (.mp id))(hi:st[id]? =some (mpK kf g L k o))(hk:opv env ki=some (.d (.v (kf k))))(hz:(P.info? et).bind (·.zero)=some zv):
  Yields P env st ⟨dst, .lookup T x ki false,ty,pos,after,guard⟩ o:=by
 have h:=bi (P:=P) (env:=env) (st:=st) (dst:=dst) (ty:=ty) (pos:=pos) (after:=after) (guard:=guard) kf (λx:AV=>x) (ai (dc g L) k o) (z:= .d (.v zv)) hT hd hK hx hi hk hz rfl;rwa [aF] at h
theorem mu{T kt et:TypeId}{d:TypeDesc}{o:Oper}{x ki v:Operand}{id:Nat}(kf:κ->Value)(g:α->AV)(L:List (κ×α)){k:κ}{vv:AV}(ho:(o=⟨dst, .insert T x ki v,ty,pos,after,guard⟩)\/(o=⟨dst, .mapUpdate T x ki v,ty,pos,after,guard⟩))(hT:P.underlying T=some (.map kt et))(hd:P.underlying kt=some d)(hK:KeyF d kf)
  (hx:opv env x=some (.mp id))(hi:st[id]? =some (mpO kf g L))(hk:opv env ki=some (.d (.v (kf k))))(hv:opv env v=some vv):
  Does P env st o (.d (.v undef)) (st.set id (mpK kf g L k vv)):=
 ba kf (λx:AV=>x) (dc g L) ho hT hd hK hx (by rw[hi,jX]) hk hv
theorem k9{T kt et:TypeId}{d:TypeDesc}{o:Oper}{x ki v:Operand}{id:Nat}(kf:κ->Value)(g:α->AV)(L:List (κ×α)){k:κ}{vv u0:AV}(ho:(o=⟨dst, .insert T x ki v,ty,pos,after,guard⟩)\/(o=⟨dst, .mapUpdate T x ki v,ty,pos,after,guard⟩))(hT:P.underlying T=some (.map kt et))(hd:P.underlying kt=some d)(hK:KeyF d kf)
  (hx:opv env x=some (.mp id))(hi:st[id]? =some (mpK kf g L k u0))(hk:opv env ki=some (.d (.v (kf k))))(hv:opv env v=some vv):
  Does P env st o (.d (.v undef)) (st.set id (mpK kf g L k vv)):=by
 have h:=ba (P:=P) (env:=env) (st:=st) (dst:=dst) (ty:=ty) (pos:=pos) (after:=after) (guard:=guard) kf (λx:AV=>x) (ai (dc g L) k u0) ho hT hd hK hx hi hk hv;rwa [mo] at h
theorem mK{m φ w}{kf:κ->Value}{a b:AV}:∀{L:List (κ×AV)}{k:κ}{vs:List Value},(∀v,RA m φ w a v->RA m φ w b v)->RAs m φ w (((ai L k a).map λp=>(kf p.1,p.2)).map (·.2)) vs->RAs m φ w (((ai L k b).map λp=>(kf p.1,p.2)).map (·.2)) vs
 |[],k,vs,h,hs=>by
  simp only[ai,List.map_cons,List.map_nil,RAs] at hs⊢;obtain⟨c,cs,e,h1,h2⟩:=hs;exact⟨c,cs,e,h c h1,h2⟩
 |p::L,k,vs,h,hs=>by
  by_cases hp:p.1=k;simp only[ai,hp,if_true,List.map_cons,RAs] at hs⊢;obtain⟨c,cs,e,h1,h2⟩:=hs;exact⟨c,cs,e,h c h1,h2⟩;simp only[ai,hp,if_false,List.map_cons,RAs] at hs⊢;obtain⟨c,cs,e,h1,h2⟩:=hs;exact⟨c,cs,e,h1,mK h h2⟩
theorem kH{kf:κ->Value}{a b:AV}:∀{L:List (κ×AV)}{k:κ},((ai L k a).map λp=>(kf p.1,p.2)).map (·.1)=((ai L k b).map λp=>(kf p.1,p.2)).map (·.1)
 |[],k=>rfl
 |p::L,k=>by
  by_cases hp:p.1=k;simp[ai,hp];have:=kH (kf:=kf) (a:=a) (b:=b) (L:=L) (k:=k);simpa[ai,hp] using this
variable{e:En}
theorem Inv.freeze_mp{m φ a w}{kf:κ->Value}{L:List (κ×AV)}{k:κ}{i id ver T n:Nat}{ds:List (List D)}(hi:Inv e m φ env st a w)(hr:st[i]? =some (mpO kf (λx:AV=>x) (ai L k (.os id ver))))(hs:st[id]? =some (.os T n ver (ds.map λe=>e.map AV.d))):
  ∃φ',Inv e m φ' env ((st.set id .dead).set i (mpO kf (λx:AV=>x) (ai L k (.d (.sl ds))))) a w:=by
 have hne':i≠id:=λh=>by subst h;rw[hr] at hs;cases hs
 obtain⟨c,hcm⟩:∃c,m[id]? =some c:=by
  have:id<m.length:=by rw[hi.sr.len];exact(giS.1 hs).1
  exact⟨_,geG this⟩
 obtain⟨y,xs,rfl,_⟩:=hi.sr.obj id _ _ hs hcm;obtain⟨φ',f1,f2,f3⟩:=gG hi.sr hs hcm;have h5:=hi.go f1 f2;have hr2:(st.set id AO.dead)[i]? =some (mpO kf (λx:AV=>x) (ai L k (.os id ver))):=by rw[List.getElem?_set_ne (Ne.symm hne')];exact hr
 refine⟨φ',⟨h5.sr.alter (o:=mpO kf (λx:AV=>x) (ai L k (.os id ver))) hr2 rfl ?_,h5.ev,h5.env,h5.sz,h5.df⟩⟩;rintro c hc2 ⟨b,q1,q2,l,cl,q3,q4,q5,q6⟩;refine⟨b,q1,q2,l,cl,q3,by rw[q4];exact kH,mK (λv hv=>?_) q5,q6⟩;simp only[RA] at hv⊢;obtain⟨v0,y0,k1,k2,k3⟩:=hv;rw[hcm] at k1;simp only[ao,Cz.tok.injEq] at k1;obtain⟨rfl,rfl⟩:=k1;have:=k3 rfl;subst this;exact f3
end
section
variable{P:Program}{e:En}{K:Ko}{env:Env}{st:List AO}{κ α:Type}[DecidableEq κ]
theorem WC.freeze_mp{c:Code}(i id:Nat){kf:κ->Value}{g:α->AV}{L:List (κ×α)}{k:κ}{x:α}{ver T n:Nat}(ds:List (List D)){es:List (List AV)}(hr:st[i]? =some (mpK kf g L k (.os id ver)))(hs:st[id]? =some (.os T n ver es))(hes:es=ds.map λe=>e.map AV.d)(hx:g x= .d (.sl ds))
  (h:WC P e c K env ((st.set id .dead).set i (mpO kf g (ai L k x)))):WC P e c K env st:=λm φ a w hi=>by
 subst hes;obtain⟨φ',hi'⟩:=hi.freeze_mp hr hs;rw[<-hx,show mpO kf (λx:AV=>x) (ai (dc g L) k (g x))=mpO kf g (ai L k x) from sw kf g L k x] at hi';exact h m φ' a w hi'
end
end Go.Sk
namespace Go.Sk
section
variable{P:Program}{env:Env}{st:List AO}{dst:Option Tmp}{ty:TypeId}{pos:String}{after:Array Edge}{guard:Option (Nat×Bool)}
variable{κ α:Type}[DecidableEq κ]
theorem km{T kt et:TypeId}{d:TypeDesc}{x ki:Operand}{id:Nat}(kf:κ->Value)(g:α->AV)(L:List (κ×α)){k:κ}{zv:Value}(hn:ac L k=none)(hT:P.underlying T=some (.map kt et))(hd:P.underlying kt=some d)(hK:KeyF d kf)
  (hx:opv env x=some (.mp id))(hi:st[id]? =some (mpO kf g L))(hk:opv env ki=some (.d (.v (kf k))))(hz:(P.info? et).bind (·.zero)=some zv):
  Yields P env st ⟨dst, .lookup T x ki true,ty,pos,after,guard⟩ (.tu [.d (.v zv), .d (.v (.bool false))]):=
 kn kf (λx:AV=>x) (dc g L) (z:= .d (.v zv)) hT hd hK hx (by rw[hi,jX]) hk hz rfl (by rw[gD,hn];rfl) (by rw[gD,hn];rfl)
theorem dD(js:List Nat)(kf:κ->Value)(L:List (κ×Unit)):AO.ren js (mpO kf (λ_:Unit=>AV.u) L)=mpO kf (λ_:Unit=>AV.u) L:=by simp only[mpO,AO.ren,List.map_map];congr 1
end
end Go.Sk
namespace Go.Sk
open Go.RowKit (Below)
open Go.MapKept (IsKey sameNow_of_keys run_getObj_map run_setObj_map run_checkKey run_findKey run_keyThatStays)
section
variable{κ α:Type}[DecidableEq κ]
def cO:List (κ×α)->κ->Nat
 |[],_=>0
 |p::r,k=>if p.1=k then 0 else cO r k+1
def bw:List (κ×α)->κ->α->List (κ×α)
 |[],k,z=> [(k,z)]
 |p::r,k,z=>if p.1=k then p::r else p::bw r k z
theorem fc:∀(L:List (κ×α))(k:κ)(z u:α),ai (bw L k z) k u=ai L k u
 |[],k,z,u=>by simp[bw,ai]
 |p::L,k,z,u=>by
  by_cases h:p.1=k;simp[bw,ai,h];simp[bw,ai,h,fc L k z u]
theorem kJ:∀(L:List (κ×α))(k:κ)(z:α),cO (bw L k z) k=cO L k
 |[],k,z=>by simp[bw,cO]
 |p::L,k,z=>by
  by_cases h:p.1=k;simp[bw,cO,h];simp[bw,cO,h,kJ L k z]
theorem jg:∀(L:List (κ×α))(k:κ)(z:α),(ac (bw L k z) k).isSome=true
 |[],k,z=>by simp[bw,ac]
 |p::L,k,z=>by
  by_cases h:p.1=k;simp[bw,ac,h];simp[bw,ac,h,jg L k z]
theorem kK:∀{L:List (κ×α)}{k:κ}{z:α},(ac L k).isSome=true->bw L k z=L
 |[],k,z,h=>by simp[ac] at h
 |p::L,k,z,h=>by
  by_cases hp:p.1=k;simp[bw,hp];simp only[ac,hp,if_false] at h;simp[bw,hp,kK h]
theorem kL:∀{L:List (κ×α)}{k:κ}{z:α},ac L k=none->bw L k z=L++ [(k,z)]/\cO L k=L.length
 |[],k,z,h=>by simp[bw,cO]
 |p::L,k,z,h=>by
  by_cases hp:p.1=k;simp[ac,hp] at h;simp only[ac,hp,if_false] at h;obtain⟨h1,h2⟩:=kL (z:=z) h;simp[bw,cO,hp,h1,h2]
theorem oJ:∀{L:List (κ×α)}{k:κ}{x:α},ac L k=some x->L[cO L k]? =some (k,x)/\∀u,ai L k u=L.set (cO L k) (k,u)
 |[],k,x,h=>by simp[ac] at h
 |p::L,k,x,h=>by
  by_cases hp:p.1=k;simp only[ac,hp,if_true,ao] at h;subst hp;subst h;simp[cO,ai];simp only[ac,hp,if_false] at h;obtain⟨h1,h2⟩:=oJ h;simp[cO,ai,hp,h1,h2]
variable{d:TypeDesc}{kf:κ->Value}
theorem k5(hK:KeyF d kf)(k:κ):∀(L:List (κ×α))(l:List MapEntry)(i:Nat),l.map (·.key)=L.map (λp=>kf p.1)->(ac L k).isSome=true->
  ∃e,l[cO L k]? =some e/\e.key=kf k/\Instr.findNow d (kf k) l i=some (some (i+cO L k,e.val))
 |[],[],i,_,h=>by simp[ac] at h
 |p::L,e::l,i,h,hg=>by
  simp only[List.map_cons,List.cons.injEq] at h;obtain⟨r,hr,hiff⟩:=sameNow_of_keys (hK.key k) (h.1▸hK.key p.1:IsKey d e.key);by_cases hp:p.1=k;have:r=true:=hiff.2 (by rw[h.1,hp]);exact⟨e,by simp[cO,hp],by rw[h.1,hp],by simp[Instr.findNow,hr,this,cO,hp]⟩;have hne:r=false:=by
   cases r with
   |false=>rfl
   |true=>exact absurd (hK.inj _ _ ((hiff.1 rfl).trans h.1)).symm hp
  simp only[ac,hp,if_false] at hg;obtain⟨e',h1,h2,h3⟩:=k5 hK k L l (i+1) h.2 hg;refine⟨e',by simpa[cO,hp] using h1,h2,?_⟩;simp[Instr.findNow,hr,hne,h3,cO,hp];omega
 |[],_::_,_,h,_=>by simp at h
 |_::_,[],_,h,_=>by simp at h
end
section
variable{P:Program}{env:Env}{st:List AO}{dst:Option Tmp}{ty:TypeId}{pos:String}{after:Array Edge}{guard:Option (Nat×Bool)}
variable{κ α:Type}[DecidableEq κ]
theorem lh{l:List MapEntry}{cl j:Nat}{e:MapEntry}(hB:Born l cl)(he:l[j]? =some e):e.born=j:=by have h:=congrArg (λz=>z[j]?) hB.2;have hj:=(giS.1 he).1;simp only[List.getElem?_map,he,Option.map_some,List.getElem?_range hj,ao] at h;exact h
theorem la{T kt et:TypeId}{d:TypeDesc}{x ki:Operand}{id:Nat}(kf:κ->Value)(g:α->AV)(L:List (κ×α)){k:κ}(z:α){zv:Value}(hT:P.underlying T=some (.map kt et))(hd:P.underlying kt=some d)(hK:KeyF d kf)
  (hx:opv env x=some (.mp id))(hi:st[id]? =some (mpO kf g L))(hk:opv env ki=some (.d (.v (kf k))))(hz:(P.info? et).bind (·.zero)=some zv)(hgz:g z= .d (.v zv)):
  Does P env st ⟨dst, .mapEntry T x ki,ty,pos,after,guard⟩ (.tu [.u, .d (.v (.int .i64 (cO L k)))]) (st.set id (mpO kf g (bw L k z))):=λm φ a w hs he=>by
 obtain⟨b,h1,h2⟩:=d7 he hx;obtain⟨b',hbb,h0,l,cl,g1,g2,g3,g4⟩:=hs.obj id _ _ hi h1;simp only[Cz.blk.injEq] at hbb;subst hbb;have hkeys:l.map (·.key)=L.map (λp=>kf p.1):=by rw[g2];simp
 have hkv:=aQ he hk;cases hinf:P.info? et with
 |none=>simp[hinf] at hz
 |some i=>
  simp only[hinf,bnS] at hz;cases hget:ac L k with
  |none=>
   rcases dt hK k L l 0 hkeys with⟨q1,q2,_⟩|⟨j,e,y,q1,q2,q3,q4,q5,_⟩
   obtain⟨e1,e2⟩:=kL (z:=z) hget;have hlen:l.length=L.length:=by have:=congrArg List.length hkeys;simpa using this
   obtain⟨k1,k2⟩:=jh (es':=(bw L k z).map λp=>(kf p.1,g p.2)) (l:=l++ [⟨kf k,zv,cl⟩]) (clock':=cl+1) hs hi h1 (by rw[e1];simp[hkeys]) (by
    rw[e1,List.map_append,List.map_append,List.map_append];refine aH (by simpa using g3) ?_;simp only[List.map_cons,List.map_nil,hgz];exact aC RAv bB) (g4.push _ _)
   refine⟨.tuple #[zv,goInt cl],_,m,φ, .inl ?_,k1,k2,?_⟩;simp[execOp,h2,hkv,Instr.mapEntry,run_underlying hT,MapKept.run_getObj_map g1,run_checkKey hd (hK.key k),run_findKey hd q2,zeroValue,typeInfo,hinf,hz,MapKept.run_setObj_map _ g1,Result.andThen];simp only[RA];refine⟨[zv,goInt cl],rfl,aC (by simp[RA]) (aC ?_ bB)⟩;rw[e2,<-hlen,<-g4.1];exact RAv;rw[hget] at q3;cases q3
  |some y=>
   obtain⟨e,q1,q4,q5⟩:=k5 hK k L l 0 hkeys (by rw[hget];rfl);rw[Nat.zero_add] at q5;have hent:bw L k z=L:=kK (by rw[hget];rfl);have hmod:l.modify (cO L k) (λe'=>{ e' with key:=kf k })=l:=by apply List.ext_getElem?;intro j;rw[List.getElem?_modify];by_cases hj:cO L k=j;subst hj;rw[q1];simp[<-q4];simp[hj]
   obtain⟨k1,k2⟩:=jh (es':=(bw L k z).map λp=>(kf p.1,g p.2)) (l:=l) (clock':=cl) hs hi h1 (by rw[hent];simp[hkeys]) (by rw[hent];simpa using g3) g4;have hb:=lh g4 q1;refine⟨.tuple #[e.val,goInt (cO L k:Nat)],_,m,φ, .inl ?_,k1,k2,?_⟩;have hj:(⟨l⟩:Array MapEntry)[cO L k]? =some e:=by simpa using q1
   simp[execOp,h2,hkv,Instr.mapEntry,run_underlying hT,MapKept.run_getObj_map g1,run_checkKey hd (hK.key k),run_findKey hd q5,q1,q4,hb,run_keyThatStays (hK.key k),MapKept.run_setObj_map _ g1,Result.andThen,hmod];simp only[RA];exact⟨[e.val,goInt (cO L k:Nat)],rfl,aC (by simp[RA]) (aC RAv bB)⟩
theorem iF{T:TypeId}{x s v:Operand}{id:Nat}(kf:κ->Value)(g:α->AV)(L:List (κ×α)){k:κ}{y:α}(hg:(ac L k).isSome=true)
  (hx:opv env x=some (.mp id))(hi:st[id]? =some (mpO kf g L))(hk:opv env s=some (.d (.v (.int .i64 (cO L k)))))(hv:opv env v=some (g y)):
  Does P env st ⟨dst, .entryStore T x s v,ty,pos,after,guard⟩ (.d (.v undef)) (st.set id (mpO kf g (ai L k y))):=λm φ a w hs he=>by
 obtain⟨b,h1,h2⟩:=d7 he hx;obtain⟨b',hbb,h0,l,cl,g1,g2,g3,g4⟩:=hs.obj id _ _ hi h1;simp only[Cz.blk.injEq] at hbb;subst hbb;have hkeys:l.map (·.key)=L.map (λp=>kf p.1):=by rw[g2];simp
 have hkv:=aQ he hk;have hru:=bc he hv;obtain⟨x0,hx0⟩:=Option.isSome_iff_exists.1 hg;obtain⟨p1,p2⟩:=oJ hx0;have hlen:l.length=L.length:=by have:=congrArg List.length hkeys;simpa using this
 have hj:cO L k<l.length:=by rw[hlen];exact(giS.1 p1).1
 have hfind:(⟨l⟩:Array MapEntry).findIdx? (λe=>(e.born:Int)==(cO L k:Nat))=some (cO L k):=by rw[Array.findIdx?_eq_some_iff_getElem];refine⟨by simpa using hj,?_,λi hi=>?_⟩;have:=lh g4 (geG hj);simp[this];have:=lh g4 (geG (show i<l.length by omega));simp[this];omega
 obtain⟨k1,k2⟩:=jh (es':=(ai L k y).map λp=>(kf p.1,g p.2)) (l:=l.modify (cO L k) (λe=>{ e with val:=a.eval v })) (clock':=cl) hs hi h1 (by
   rw[p2];apply List.ext_getElem?;intro i;have hi:=congrArg (λz=>z[i]?) hkeys;simp only[List.getElem?_map] at hi;simp only[List.getElem?_map,List.getElem?_modify,List.getElem?_set];have hkk:=congrArg (λz=>z[cO L k]?) hkeys;simp only[List.getElem?_map,p1,geG hj,Option.map_some,ao] at hkk;by_cases hij:cO L k=i;subst hij;simp[geG hj,(giS.1 p1).1,hkk];simp[hij];simpa[Function.comp_def] using hi) (by
   rw[List.map_map] at g3⊢;have e2:(l.modify (cO L k) (λe=>{ e with val:=a.eval v })).map (·.val)=(l.map (·.val)).set (cO L k) (a.eval v):=by apply List.ext_getElem?;intro i;rw[List.getElem?_map,List.getElem?_modify,List.getElem?_set];by_cases hij:cO L k=i;subst hij;simp[hj];simp[hij]
   rw[e2,p2,List.map_set];exact gu g3 hru) ⟨by rw[List.length_modify];exact g4.1,by
   rw[List.length_modify,<-g4.2];apply List.ext_getElem?;intro i;rw[List.getElem?_map,List.getElem?_map,List.getElem?_modify];by_cases hij:cO L k=i;subst hij;cases l[cO L k]? <;>simp;simp[hij]⟩
 refine⟨undef,_,m,φ, .inr ⟨?_,rfl⟩,k1,k2,RAv⟩;simp[execOp,h2,hkv,Instr.entryStore,MapKept.run_getObj_map g1,asInt,asIntOf,hfind,MapKept.run_setObj_map _ g1,Result.andThen]
end
end Go.Sk
namespace Go.Sk
open Go.RowKit (Below)
theorem qL{m m':List Cz}{φ φ':Nat->Nat}{w w':World}:∀{ds:List D}{vs:List Value},(∀d∈ds,∃v,d.gnd=some v)->RAs m φ w (ds.map .d) vs->RAs m' φ' w' (ds.map .d) vs
 |[],vs,_,h=>by simpa[RAs] using h
 |d::ds,vs,hg,h=>by
  simp only[List.map_cons,RAs] at h⊢;obtain⟨c,cs,e,h1,h2⟩:=h;obtain⟨v,hv⟩:=hg d List.mem_cons_self;simp only[RA] at h1;have:=p7 h1 hv;subst this;exact⟨_,cs,e,by simpa[RA] using ni hv,qL (λd' hd'=>hg d' (List.mem_cons_of_mem _ hd')) h2⟩
theorem sR(es:List (List D)):(es.map λe=>e.map AV.d).flatten=es.flatten.map AV.d:=by simp[List.map_flatten]
theorem uf{α:Type}{E:α->List D}(h:∀x d,d∈E x->∃v,D.gnd d=some v)(L:List α):∀d∈(List.map E L).flatten,∃v,D.gnd d=some v:=λd hd=>by
 obtain⟨e,he,hde⟩:=List.mem_flatten.1 hd;obtain⟨x,_,rfl⟩:=List.mem_map.1 he;exact h x d hde
theorem ru{P:Program}{f:FuncId}{T k v0 eo k' iv:Nat}{dsl es:List (List D)}{rest:List D}
  (hc:Ctr P f (.d (.sl dsl)::rest.map .d) [.rsv] (eg 1 (λr' new=>r'= .os 0 iv/\new=[.os eo k' iv (es.map λe=>e.map AV.d)])))
  (hg:∀d∈es.flatten,∃v,D.gnd d=some v):
  Ctr P f (.os 0 v0::rest.map .d) [.os T k v0 (dsl.map λe=>e.map AV.d), .rsv] (eg 2 (λr' new=>r'= .os 1 iv/\new=[.os T k v0 (dsl.map λe=>e.map AV.d), .os eo k' iv (es.map λe=>e.map AV.d)])):=by
 refine⟨hc.1,λm φ w vs hs ha=>?_⟩;obtain⟨c0,c1,rfl⟩:∃c0 c1,m=[c0,c1]:=by
  have:=hs.len;match m,this with
  |[c0,c1],_=>exact⟨c0,c1,rfl⟩
 obtain⟨y,xs,rfl,o1,o2,o3,o4⟩:=hs.obj 0 _ _ rfl rfl;simp only[RAs] at ha;obtain⟨vy,vr,rfl,a1,a2⟩:=ha;simp only[RA] at a1;obtain⟨v0',y0,k1,k2,k3⟩:=a1;simp only[List.getElem?_cons_zero,ao,Cz.tok.injEq] at k1;obtain⟨rfl,rfl⟩:=k1;have hvy:=k3 rfl;subst hvy;obtain⟨φ1,f1,f2,f3,f4⟩:=fE hs (id:=0) rfl rfl;have hc1:c1= .non:=hs.obj 1 _ _ rfl rfl;have hs1:SR [c1] φ1 [.rsv] w:=by
  refine⟨rfl,λi o c h1 h2=>?_,f2.lt,λi j o o' c c' b h1 h2 _ _ h3 h4 _ _=>?_,f2.gl,λb ⟨i,c,h1,h2⟩=>?_⟩;match i,h1,h2 with
  |0,h1,h2=>simp only[List.getElem?_cons_zero,ao] at h1 h2;subst h1;subst h2;exact hc1
  match i,j,h1,h2 with
  |0,0,_,_=>rfl
  match i,h1 with
  |0,h1=>exact f2.nb b ⟨1,c,by simpa using h1,h2⟩
 have ha1:RAs [c1] φ1 w (.d (.sl dsl)::rest.map .d) (vy::vr):=
  aC (by simpa[RA] using f3) (bY (RFs.mono f1.fz _ _ (bO a2)))
 refine(hc.2 _ _ _ _ hs1 ha1).mono ?_;rintro en w' ⟨v,r,st',m',φ',rfl,⟨q1,rfl,q2⟩,hev,hsr,hra⟩;have hb0:∀b,vy.ownBlock=some b->φ b=0:=o4;have hbs:∀b,vy.ownBlock=some b->b<w.heap.size:=λb hb=>hs.nb b ⟨0,_,rfl,hb⟩;have hnin:∀b,vy.ownBlock=some b->¬In [c1] b:=λb hb ⟨i,c,h1,h2⟩=>by
  match i,h1 with
  |0,h1=>simp only[List.getElem?_cons_zero,ao] at h1;subst h1;rw[hc1] at h2;exact h2.elim
 obtain⟨c1',hc1'⟩:∃c,m'[0]? =some c:=by
  have:0<m'.length:=by rw[hsr.len];omega
  exact⟨_,geG this⟩
 have hst0:st'[0]? =some (.os eo k' iv (es.map λe=>e.map AV.d)):=by have:=congrArg (λl=>l[0]?) q2;simpa using this
 obtain⟨y1,xs1,rfl,p1,p2,p3,p4⟩:=hsr.obj 0 _ _ hst0 hc1';let φ2:Nat->Nat:=λb=>if vy.ownBlock=some b then 0 else φ' b
 have e2:∀b,vy.ownBlock=some b->φ2 b=0:=λb hb=>if_pos hb;have e3:∀b,vy.ownBlock≠some b->φ2 b=φ' b:=λb hb=>if_neg hb;have hF:Fz φ w φ2 w':=λb off c h1 h2=>by
  have hb:vy.ownBlock≠some b:=λh=>by rw[hb0 b h] at h1;omega
  have:=hev.fz b off c (by rw[f4 b hb];exact h1) h2;rw[e3 b hb];exact this
 have new1:∀b,y1.ownBlock=some b->In [c1] b\/w.heap.size<=b:=λb hb=>hev.new b ⟨0,_,hc1',hb⟩;have hy1:∀b,y1.ownBlock=some b->vy.ownBlock≠some b:=λb hb h=>by
  rcases new1 b hb with h1|h1
  exact hnin b h h1;have:=hbs b h;omega
 refine⟨v, .os 1 iv,[.os T k v0 (dsl.map λe=>e.map AV.d), .os eo k' iv (es.map λe=>e.map AV.d)],[.tok v0 vy, .tok iv y1],φ2,rfl,⟨Nat.le_refl 2,rfl,rfl⟩,⟨λi c hi=>?_,λb ⟨i,c,h1,h2⟩=>?_,hev.os,hev.tape,hev.output,hev.size,λb hb hn=>?_,hF⟩,⟨rfl,λi o c h1 h2=>?_,λb hb=>?_,λi j o o' c c' b h1 h2 l1 l2 h3 h4 h5 h6=>?_,hs.gl.mono hF,λb ⟨i,c,h1,h2⟩=>?_⟩,?_⟩;match i,hi with
 |0,hi=>exact⟨c,hi,Cz.le_refl c⟩
 |1,hi=>obtain⟨c',g1,g2⟩:=hev.pre 0 c (by simpa using hi);rw[hc1'] at g1;exact⟨c',by simpa using g1,g2⟩
 match i,h1 with
 |0,h1=>exact .inl ⟨0,c,h1,h2⟩
 |1,h1=>
  simp only[List.getElem?_cons_succ,List.getElem?_cons_zero,ao] at h1;subst h1;rcases new1 b h2 with⟨i,c,g1,g2⟩|h
  match i,g1 with
  |0,g1=>exact .inl ⟨1,c,by simpa using g1,g2⟩
  exact .inr h
 have h0:vy.ownBlock≠some b:=λh=>hn ⟨0,_,rfl,h⟩;have h1:¬In [c1] b:=λ⟨i,c,g1,g2⟩=>by
  match i,g1 with
  |0,g1=>exact hn ⟨1,c,by simpa using g1,g2⟩
 obtain⟨g1,g2⟩:=hev.keep b hb h1;exact⟨g1,by rw[e3 b h0,g2,f4 b h0]⟩;match i,h1,h2 with
 |0,h1,h2=>simp only[List.getElem?_cons_zero,ao] at h1 h2;subst h1;subst h2;refine⟨vy,xs,rfl,eY o1 λb hb=>(hev.keep b (hbs b hb) (hnin b hb)).1,?_,o3,e2⟩;rw[sR] at o2⊢;exact bY (RFs.mono hF _ _ (bO o2))
 |1,h1,h2=>simp only[List.getElem?_cons_succ,List.getElem?_cons_zero,ao] at h1 h2;subst h1;subst h2;refine⟨y1,xs1,rfl,p1,?_,p3,λb hb=>by rw[e3 b (hy1 b hb)];exact p4 b hb⟩;rw[sR] at p2⊢;exact qL hg p2
 have h0:vy.ownBlock≠some b:=λh=>by have:=hbs b h;have:=hev.size;omega
 rw[e3 b h0];exact hsr.lt b hb;match i,j,h3,h4 with
 |0,0,_,_=>rfl
 |1,1,_,_=>rfl
 |0,1,h3,h4=>simp only[List.getElem?_cons_zero,List.getElem?_cons_succ,ao] at h3 h4;subst h3;subst h4;exact absurd h5 (hy1 b h6)
 |1,0,h3,h4=>simp only[List.getElem?_cons_zero,List.getElem?_cons_succ,ao] at h3 h4;subst h3;subst h4;exact absurd h6 (hy1 b h5)
 match i,h1 with
 |0,h1=>simp only[List.getElem?_cons_zero,ao] at h1;subst h1;exact Nat.lt_of_lt_of_le (hbs b h2) hev.size
 |1,h1=>simp only[List.getElem?_cons_succ,List.getElem?_cons_zero,ao] at h1;subst h1;exact hsr.nb b ⟨0,_,hc1',h2⟩
 simp only[RA] at hra⊢;obtain⟨z1,z2,g1,g2,g3⟩:=hra;rw[hc1'] at g1;simp only[ao,Cz.tok.injEq] at g1;obtain⟨rfl,rfl⟩:=g1;exact⟨_,_,sM,g2,g3⟩
theorem tY{P:Program}{f:FuncId}{T k v0:Nat}{dsl:List (List D)}{rest:List D}{r:D}{val:Value}(hc:Pu P f (.sl dsl::rest) r)(hg:r.gnd=some val):
  Ctr P f (.os 0 v0::rest.map .d) [.os T k v0 (dsl.map λe=>e.map AV.d)] (eg 1 (λr' new=>r'= .d r/\new=[.os T k v0 (dsl.map λe=>e.map AV.d)])):=by
 refine⟨hc.1,λm φ w vs hs ha=>?_⟩;obtain⟨c0,rfl⟩:∃c0,m=[c0]:=by
  have:=hs.len;match m,this with
  |[c0],_=>exact⟨c0,rfl⟩
 obtain⟨y,xs,rfl,o1,o2,o3,o4⟩:=hs.obj 0 _ _ rfl rfl;simp only[RAs] at ha;obtain⟨vy,vr,rfl,a1,a2⟩:=ha;simp only[RA] at a1;obtain⟨v0',y0,k1,k2,k3⟩:=a1;simp only[List.getElem?_cons_zero,ao,Cz.tok.injEq] at k1;obtain⟨rfl,rfl⟩:=k1;have hvy:=k3 rfl;subst hvy;obtain⟨φ1,f1,f2,f3,f4⟩:=fE hs (id:=0) rfl rfl;have ha1:RAs ([.tok v0 vy]:List Cz) φ1 w (.d (.sl dsl)::rest.map .d) (vy::vr):=
  aC (by simpa[RA] using f3) (bY (RFs.mono f1.fz _ _ (bO a2)))
 refine(jd hc f2 ha1 ⟨Le.refl _,Les.refl _⟩).mono ?_;rintro en w' ⟨v,φ',rfl,hev,hsr,hra,hb⟩;have hv:=p7 hra hg;subst hv;refine⟨_, .d r,[.os T k v0 (dsl.map λe=>e.map AV.d)],[.tok v0 vy],φ,rfl,⟨Nat.le_refl 1,rfl,rfl⟩,Ev.of_below hs hb,hs.of_below hb,by simpa[RA] using ni hg⟩
section
variable{P:Program}{env:Env}{st:List AO}{dst:Option Tmp}{ty:TypeId}{pos:String}{after:Array Edge}{guard:Option (Nat×Bool)}
theorem nK{T len:Nat}{bb:Bool}{x y:Operand}{ps:List D}{kk:IntKind}{l:Nat}(hT:eD P T=some (len,1,bb))(hx:opv env x=some (.d (.pc ps)))(hy:opv env y=some (.d (.v (.int kk (l:Int)))))(hl:Nat.ble len ps.length=true)(h2:Nat.blt l len=true):
  Yields P env st ⟨dst, .slice T x (some y) none none,ty,pos,after,guard⟩ (.d (.sl (((ps.take len).drop l).map λd=> [d]))):=λm φ a w _ he=>by
 obtain⟨b,off,h2',h3⟩:=gf he hx;obtain⟨t,g1,g2,g3⟩:=fJ hT;have hl:=nbT hl;have hll:l<len:=nbT h2;refine⟨.slice (some ⟨b,off+l,none⟩) (len - l) (len - l),?_,λw' _=>?_⟩;simp only[RA,RD];refine .inr ⟨b,off+l,1,len - l,by simp;omega,by simp;omega,λe he=>?_,gt (iL l (iK len h3))⟩;obtain⟨d,_,rfl⟩:=List.mem_map.1 he;rfl;have hh:=aQ he hy;have e0:(0:Int)<=(l:Int):=oM;have e1:(l:Int)<=(len:Int):=oM;have e2:¬len=l:=oM;have e3:l<=len:=oM;by_cases hz:l=0;simp[execOp,Instr.sliceAt,run_underlying g1,Instr.slice,h2',hh,Instr.sliceBounds,Instr.sureAddr,ax g2,Addr.add,asIntOf,e0,e1,Instr.sliceBound,e2,e3,hz];simp[execOp,Instr.sliceAt,run_underlying g1,Instr.slice,h2',hh,Instr.sliceBounds,Instr.sureAddr,ax g2,Addr.add,asIntOf,e0,e1,Instr.sliceBound,e2,e3,hz]
end
theorem ld{α β:Type}{E R:α->List D}{E' R':β->List D}{P:Program}{f:FuncId}{T k v0 eo k' iv:Nat}{bb:List α}{r:List β}{rest:List D}(hE:∀x,E x=R x)(hE':∀x,E' x=R' x)
  (hc:Ctr P f (.d (.sl (bb.map E))::rest.map .d) [.rsv] (eg 1 (λr' new=>r'= .os 0 iv/\new=[.os eo k' iv (r.map (aJ R'))])))
  (hg:∀x d,d∈E' x->∃v,D.gnd d=some v):
  Ctr P f (.os 0 v0::rest.map .d) [.os T k v0 (bb.map (aJ R)), .rsv] (eg 2 (λr' new=>r'= .os 1 iv/\new=[.os T k v0 (bb.map (aJ R)), .os eo k' iv (r.map (aJ R'))])):=by
 rw[an hE' r] at hc;rw[an hE' r,an hE bb];exact ru hc (uf hg r)
theorem sf{α:Type}{E R:α->List D}{P:Program}{f:FuncId}{T k v0:Nat}{bb:List α}{rest:List D}{r:D}{val:Value}(hE:∀x,E x=R x)(hc:Pu P f (.sl (bb.map E)::rest) r)(hg:r.gnd=some val):
  Ctr P f (.os 0 v0::rest.map .d) [.os T k v0 (bb.map (aJ R))] (eg 1 (λr' new=>r'= .d r/\new=[.os T k v0 (bb.map (aJ R))])):=by
 rw[an hE bb];exact tY hc hg
theorem qA{α:Type}{E:α->List D}(h:∀x,((E x).all λd=>d.gnd.isSome)=true):∀x d,d∈E x->∃v,D.gnd d=some v:=λx d hd=>Option.isSome_iff_exists.1 (List.all_eq_true.1 (h x) d hd)
theorem jD{P:Program}{fn:Func}{env:Env}{st st1:List AO}{k:Nat}{S:AV->List AO->Prop}{m0 φ0 w0 n}{r r1:AV}(perm ln:List Nat)(r0:AV)(new:List AO){new':List AO}(hr:Res P fn env st r)(hrr:r0.ren perm=r1)(hl:Le r r1)(hwk:SLe st st1)
  (hp:perm.Nodup)(hren:new.map (AO.ren perm)=new')(hwin:eK perm st1 new')(hlt:da perm.length new=true)(hr0:r0.lt perm.length=true)(hm0:m0.length=k)(hk:k=perm.length)
  (hfix:fixm perm ln k st=true)(hS:S r0 new):WE P ⟨m0,φ0,w0,n,none,none⟩ .ret (.fin fn (eg k S)) env st:=
 nZ perm r0 new hr (by rw[hrr];exact hl) hwk hp (by rw[hren];exact hwin) hlt hr0 hm0 hk (λi hi=>by
  have:=List.all_eq_true.1 hfix i (List.mem_range.2 oM);rw[Bool.or_eq_true,Bool.and_eq_true] at this;rcases this with h|⟨_,h2⟩
  exact .inr (sG h);exact .inl (of_decide_eq_true h2)) hS
theorem Does.nil_os{P:Program}{env:Env}{st st':List AO}{o:Oper}{r:AV}(t T k:Nat)(ht:env.get t=some (.d (.v (.slice none 0 0))))(h:Does P ((t, .os st.length 0)::env) (st++ [.os T k 0 []]) o r st'):Does P env st o r st':=λm φ a w hs he=>by
 obtain⟨h1,h2⟩:=jW (T:=T) (k:=k) hs;have h3:EnvOk (m++ [.tok 0 (.slice none 0 0)]) φ w env a:=he.mono (Pre.append _ _) (Fz.refl φ w);have h4:EnvOk (m++ [.tok 0 (.slice none 0 0)]) φ w ((t, .os st.length 0)::env) a:=⟨λs x hx=>by
  unfold Env.get at hx;cases hb:Nat.beq s t with
  |true=>rw[hb] at hx;simp only[cdT,ao] at hx;subst hx;have:s=t:=nbE hb;subst this;obtain⟨v,g1,g2⟩:=he s _ ht;simp only[RA,RD] at g2;subst g2;refine⟨_,g1,?_⟩;simp only[RA];exact⟨0,_,by rw[<-hs.len];simp,Nat.le_refl _,λ_=>rfl⟩
  |false=>rw[hb] at hx;exact h3 s x hx,h3.gl⟩
 obtain⟨v,w',m',φ',k1,k2,k3,k4⟩:=h _ φ a w h2 h4;exact⟨v,w',m',φ',k1,h1.trans k2,k3,k4⟩
theorem bW{κ:Type}[DecidableEq κ](n:Nat)(kf:κ->Value):∀L:List (κ×Unit),AO.lt n (mpO kf (λ_:Unit=>AV.u) L)=true
 |[]=>rfl
 |x::L=>by
  have:=bW n kf L;simp only[mpO,AO.lt] at this⊢;rw[List.map_cons,List.map_cons,AV.lts,this];rfl
end Go.Sk
namespace Go.Sk
theorem pD{F:Fence}{n:Nat}{P:Program}{Q:Exit->Act->World->Prop}{a:Act}{w:World}{c:Code}(hg:∀l a w,¬Q (.goto l) a w)(h:c.wpIn F n P Q a w):(Code.scope c).wpIn F n P Q a w:=by
 intro b k cs hro hb hr;have h0:(lone (b.atR a (.code (.scope c)::k)) cs w).fenced P F:=fenced_calm hb hr rfl;have s1:step P (lone (b.atR a (.code (.scope c)::k)) cs w)= .next (lone (b.atR a (.code c:: .inScope c::k)) cs w):=step_lone_go (by simp[stepG,stepG.exec,Frame.atR]);have s2:∀a w,step P (lone (b.atR a (.inScope c::k)) cs w)= .next (lone (b.atR a k) cs w):=λa w=>step_lone_go (by simp[stepG,stepG.exec,Frame.atR]);obtain⟨e,a₁,w₁,hq,harr⟩:=h b (.inScope c::k) cs hro hb hr;cases e with
 |normal=>exact⟨.normal,a₁,w₁,hq, .head h0 s1 (StepsIn.trans harr (.one (fenced_calm hb hr rfl) (s2 _ _)))⟩
 |exit id=>
  have hx:exitTo id (.inScope c::k)=exitTo id k:=by simp[exitTo]
  exact⟨.exit id,a₁,w₁,hq,λk' hk=> .head h0 s1 (harr.1 k' (by rw[hx];exact hk)),
   λhr' hk=>let ⟨k₁,h1,h2⟩:=harr.2 hr' (by rw[hx];exact hk);⟨k₁,h1, .head h0 s1 h2⟩⟩
 |goto l=>exact(hg _ _ _ hq).elim
 |ret=>exact⟨_,a₁,w₁,hq, .of_steps (.one h0 s1) harr⟩
 |panic ch=>exact⟨_,a₁,w₁,hq, .of_steps (.one h0 s1) harr⟩
 |outgrown=>exact⟨_,a₁,w₁,hq, .of_steps (.one h0 s1) harr⟩
theorem Ko.den_goto{P:Program}{e:En}{l:Nat}(he:e.rd=none):∀(k:Ko)(a:Act)(w:World),¬k.den P e (.goto l) a w
 | .fin fn Q,a,w,h=>h
 | .finP fn Q QP,a,w,h=>h
 | .seq c k,a,w,h=>Ko.den_goto he k a w h
 | .blk id k,a,w,h=>Ko.den_goto he k a w h
 | .lp J k,a,w,h=>Ko.den_goto he k a w h
 | .rend Q,a,w,h=>by
  obtain⟨m,φ,w0,n,rd,ds⟩:=e;dsimp only at he;subst he;exact h
 | .asg b k,a,w,h=>h
 | .rl n c k,a,w,h=>Ko.den_goto he k a w h
theorem rN{P:Program}{e:En}{c:Code}{k:Ko}{env:Env}{st:List AO}(he:e.rd=none)(h:WC P e c k env st):WC P e (.scope c) k env st:=λm φ a w hi=>pD (λ_ _ _ h=>k.den_goto he _ _ h) (h m φ a w hi)
theorem rO{P:Program}{e:En}{l:Nat}{k:Ko}{env:Env}{st:List AO}(h:WE P e .normal k env st):WC P e (.label l) k env st:=λm φ a w hi=>wpIn_label (h m φ a w hi)
end Go.Sk
namespace Go.Sk
open Go.RowKit (Below)
open Go.ChangeShapes Go.WideShapes Go.ChangeAt Go.RowKit
theorem pn{φ w}{α:Type}(f:α->Value):∀l:List α,RFs φ w (l.map λx=>D.v (f x)) (l.map f)
 |[]=>by simp[RFs]
 |x::l=>by
  simp only[List.map_cons,RFs];exact⟨f x,l.map f,rfl,by simp[RD],pn f l⟩
theorem ku{P:Program}{w:World}{name:String}{g n f:Nat}{t e:TypeId}{k:IntKind}{cs:Array Value}{sp:Nat->Bool}{tab:List Int}{p:List MemPlace}(hu:P.underlying t=some (.array n e))(he:P.underlying e=some (.int k))(hce:P.cellsOf e=1)(hct:P.cellsOf t=n)
  (hg:P.globalNamed name=some g)(hv:w.var? P name=some cs)(hd:DataW.trod (λ_=>()) P w 0 sp false f t cs.toList=some (.agg (tab.map λn=> .lit (.int k n)),p))(hz:0<cs.size->∀j,w.frozen? ⟨g,j,none⟩=false):RPs (bu w) w (tab.map (D.i k)) g 0:=by
 obtain⟨xs,m,rfl,hx,hlen,hn,hel⟩:=DataW.trod_array hu hd;simp only[Prod.mk.injEq,DataW.agg.injEq] at hx;have htl:tab.length=n:=by have:=congrArg List.length hx.1;simp only[List.length_map] at this;omega
 rw[hct] at hlen;have hcell:∀i v,(tab.map (Value.int k))[i]? =some v->cs[i]? =some v:=λi v hi=>by
  rw[List.getElem?_map,Option.map_eq_some_iff] at hi;obtain⟨z,hz,rfl⟩:=hi;have hin:i<n:=by rw[<-htl];exact(giS.1 hz).1
  have h1:=hel i hin;have hxi:i<xs.length:=oM;rw[geG hxi] at h1;obtain⟨n',e1,e2,_⟩:=DataW.trod_int he h1;rw[hce,Nat.mul_one] at e1;have h2:(tab.map λn=>(DataW.lit (.int k n):DataW Unit))[i]? =some (xs[i]).1:=by rw[hx.1,List.getElem?_map,geG hxi];rfl
  rw[List.getElem?_map,hz,e2] at h2;simp only[Option.map_some,ao,DataW.lit.injEq,Lit.int.injEq,true_and] at h2;subst h2;have h3:cs.toList[i]? =some (.int k z):=by
   have h4:(cs.toList.drop i).take 1=[Value.int k z]:=e1;have h5:((cs.toList.drop i).take 1)[0]? =some (Value.int k z):=by rw[h4];rfl
   rw[List.getElem?_take,if_pos oM,List.getElem?_drop] at h5;simpa using h5
  simpa using h3
 have hall:bu w g=cs.size:=by have h:=hv;simp only[World.var?,hg,bnS] at h;unfold bu;split at h;rename_i c _ _ hh;simp only[ao] at h;subst h;rw[hh];cases h
 have hm:tab.map (D.i k)=tab.map λx=>D.v (Value.int k x):=rfl;rw[hm];refine dH (vs:=tab.map (Value.int k)) (pn _ _) (λj v hj=>?_);have h1:=hcell j v hj;rw[Nat.zero_add,hall];exact⟨(Array.getElem?_eq_some_iff.1 h1).1,ov (by rw[World.var?_cell hg hv];exact h1) (hz (by have:=(Array.getElem?_eq_some_iff.1 h1).1;omega) j)⟩
theorem nm{W:World}{ps:List MemPlace}{g n:Nat}{R:Nat->Nat->Prop}(h:∀b off,MemPlace.cell b off∈ps->(∃c t,W.heap[b]? =some (.cells c t (0,0)))/\R b off)(hm:∀x∈MemPlace.row ⟨g,0,none⟩ n,x∈ps)(h0:0<n)(j:Nat):W.frozen? ⟨g,j,none⟩=false:=by obtain⟨⟨c,t,hc⟩,_⟩:=h g 0 (hm _ (List.mem_map.2 ⟨0,List.mem_range.2 h0,rfl⟩));simp[World.frozen?,hc]
theorem ne{H:Type}{enc:TypeId×Value->H}{C:Checked}{os:Os}{f:FuncId}{fn:Func}{s:ChangeSpec}{conds:List PathCond}{tb:TypeId}(n:Nat)(X:World->Prop)(hX:∀w w':World,w.heap=w'.heap->X w->X w')(own:ownKnob C.prog.godebug=none)(started:os.Started)(noInit:C.prog.inits.idxOf? f=none)(hfn:C.prog.funcs[f]? =some fn)
  (witness:∃(w:World)(tape:Tape)(i:Input),w.os=os/\(w.forCall tape i).Shaped C.prog/\i.vars=[]/\Input.okWide C.prog (w.forCall tape i) .any w.heap.size f i/\
   ((s.pre enc C.prog fn conds false (w.forCall tape i).memory i.args/\X (w.forCall tape i).memory)/\sizedMet enc C.prog fn (OpenSpec.ofChange s) false (w.forCall tape i).memory i.args)/\({}:Assume).holds C.prog (lone (Frame.enter C.prog f i.args .normal) [] (w.forCall tape i)))
  (hvars:s.vars=[])(hn:fn.params.size=n)(hres:fn.resultTypes= #[tb])(hb:C.prog.underlying tb=some .bool)
  (hspec:∀ds:List (DataW H),ds.length=n->s.fn H ds={ results:=[.lit (.bool true)],args:=ds })(hl:laidOutB C.prog=true)
  (htypes:(fn.params.toList.all λt=>C.prog.readableRec t&&decide (t<C.prog.types.size))=true)
  (hwalk:∀(W:World)(base:Nat)(args:Array Value)(ds:List (DataW H))(p:List MemPlace),X W->(∀(j:Nat) t v,fn.params[j]? =some t->args[j]? =some v->Value.okWide C.prog W .any base t v)->
   pi enc C.prog W (λ_=>true) true fn.params.toList args.toList ds p->(DataW.weightsEach C.prog fn.params.toList ds).all (·<=reachBytes)=true->
   Calls C.prog f args W λe W'=>e= .returned (.bool true)/\Below W.heap.size W W'):
  ReturnsInHanded {} C os f .any (λw args=>(s.pre enc C.prog fn conds false w args/\X w)/\sizedMet enc C.prog fn (OpenSpec.ofChange s) false w args) (s.post enc C.prog fn false true false false):=by
 refine returnsInHanded_of_change_and (X:=λw _=>X w) (λw w' _ hh h=>hX w w' hh h) own started noInit hfn witness ?_;intro W base args ds gs before hval hW _ hsz hXW _;have hW':=hW;obtain⟨p,q,hA,hV,rfl,hNF,_⟩:=hW;rw[hvars] at hV;obtain⟨rfl,rfl⟩:=trodVars_none hV;have hvt:s.plain.varTypes C.prog=[]:=by simp[DataSpec.varTypes,ChangeSpec.plain,hvars]
 rw[hvt] at hsz;simp only[List.append_nil] at hsz hW';have hlt:∀y∈p,y.block<W.heap.size:=λy hy=>by simpa using hW'.lt y (by simp[hy])
 have hdl:ds.length=n:=by rw[(jF hA).1];simpa using hn
 refine(hwalk W base args ds p hXW hval ⟨hA,kF hNF λx hx=>List.mem_append_left _ hx⟩ hsz).mono λe W' ⟨he,hbel⟩=>?_;subst he;refine⟨_,rfl,ds,[],p,[],p,[],?_,?_,?_,?_,hbel.frame _,λh=>by cases h⟩;simpa using hW';simp only[List.append_nil,hspec ds hdl,hres];exact trodAll_mk1 (shut_bool hb _);simp only[List.append_nil,hspec ds hdl];exact gU hl hbel htypes hA hlt;simp only[List.append_nil,hspec ds hdl,hvars];rfl
end Go.Sk
namespace Go.Sk
open Go.ChangeShapes Go.WideShapes Go.ChangeAt Go.RowKit
theorem u3{α:Type}(cs:Array Value)(f g:α->Value):∀(tab:List α)(i0:Nat),(∀k p,tab[k]? =some p->cs[2*(i0+k)]? =some (f p)/\cs[2*(i0+k)+1]? =some (g p))->∀j v,(tab.flatMap λp=> [f p,g p])[j]? =some v->cs[2*i0+j]? =some v
 |[],i0,h,j,v,hv=>by simp at hv
 |p::r,i0,h,0,v,hv=>by
  have:=(h 0 p rfl).1;rw[List.flatMap_cons] at hv;have e:f p=v:=inS hv;rw[<-e];exact this
 |p::r,i0,h,1,v,hv=>by
  have:=(h 0 p rfl).2;rw[List.flatMap_cons] at hv;have e:g p=v:=inS hv;rw[<-e];exact this
 |p::r,i0,h,j+2,v,hv=>by
  rw[List.flatMap_cons] at hv;have:=u3 cs f g r (i0+1) (λk q hq=>by
   have:=h (k+1) q (by simpa using hq);rw[show i0+1+k=i0+(k+1) by omega];exact this) j v hv
  rw[show 2*i0+(j+2)=2*(i0+1)+j by omega];exact this
theorem qI{φ w}{α:Type}(f g:α->ByteArray):∀l:List α,RFs φ w (l.flatMap λx=> [D.s (f x),D.s (g x)]) (l.flatMap λx=> [Value.string (f x),Value.string (g x)])
 |[]=>by simp[RFs]
 |x::l=>by
  simp only[List.flatMap_cons,List.cons_append,List.nil_append,RFs];exact⟨_,_,rfl,by simp[RD],_,_,rfl,by simp[RD],qI f g l⟩
theorem l6{P:Program}{w:World}{name:String}{g n f:Nat}{t e ts:TypeId}{f0 f1:Field}{cs:Array Value}{sp:Nat->Bool}{tab:List (ByteArray×ByteArray)}{p:List MemPlace}(hu:P.underlying t=some (.array n e))(he:P.underlying e=some (.struct #[f0,f1]))(h0:f0.type=ts)(h1:f1.type=ts)(o0:f0.offset=0)(o1:f1.offset=1)(hs:P.underlying ts=some .string)(hcs:P.cellsOf ts=1)(hce:P.cellsOf e=2)(hct:P.cellsOf t=2*n)
  (hg:P.globalNamed name=some g)(hv:w.var? P name=some cs)(hd:DataW.trod (λ_=>()) P w 0 sp false f t cs.toList=some (.agg (tab.map λp=> .agg [.lit (.string p.1.data.toList), .lit (.string p.2.data.toList)]),p))(hz:0<cs.size->∀j,w.frozen? ⟨g,j,none⟩=false):RPs (bu w) w (tab.flatMap λp=> [D.s p.1,D.s p.2]) g 0:=by
 obtain⟨xs,m,rfl,hx,hlen,hn,hel⟩:=DataW.trod_array hu hd;simp only[Prod.mk.injEq,DataW.agg.injEq] at hx;have htl:tab.length=n:=by have:=congrArg List.length hx.1;simp only[List.length_map] at this;omega
 rw[hct] at hlen;have one:∀(i:Nat)(s:ByteArray)(k:Nat),((cs.toList.drop (i*2)).take 2|>.drop k).take 1=[Value.string s]->k<2->cs[2*i+k]? =some (.string s):=λi s k h hk=>by
  have h5:(((cs.toList.drop (i*2)).take 2|>.drop k).take 1)[0]? =some (Value.string s):=by rw[h];rfl
  rw[List.getElem?_take,if_pos oM,List.getElem?_drop,List.getElem?_take,if_pos oM,List.getElem?_drop] at h5;rw[show 2*i+k=i*2+(k+0) by omega,<-Array.getElem?_toList];exact h5
 have hcell:=u3 cs (λp:ByteArray×ByteArray=>Value.string p.1) (λp=>Value.string p.2) tab 0 (λi q hq=>by
  have hin:i<n:=by rw[<-htl];exact(giS.1 hq).1
  have h2:=hel i hin;have hxi:i<xs.length:=oM;rw[geG hxi] at h2;obtain⟨y0,y1,n',e1,_,e3,e4⟩:=trod_struct2 he h2;rw[hce,o0,h0,hcs] at e3;rw[hce,o1,h1,hcs] at e4;obtain⟨s0,a1,a2,_⟩:=DataW.trod_string hs e3;obtain⟨s1,b1,b2,_⟩:=DataW.trod_string hs e4;have h3:(tab.map λp=>(DataW.agg [.lit (.string p.1.data.toList), .lit (.string p.2.data.toList)]:DataW Unit))[i]? =some (xs[i]).1:=by rw[hx.1,List.getElem?_map,geG hxi];rfl
  rw[List.getElem?_map,hq,e1,a2,b2] at h3;simp only[Option.map_some,ao,DataW.agg.injEq,List.cons.injEq,DataW.lit.injEq,Lit.string.injEq,and_true,Array.toList_inj] at h3;have c0:q.1=s0:=ByteArray.ext h3.1;have c1:q.2=s1:=ByteArray.ext h3.2;rw[c0,c1,Nat.zero_add];exact⟨one i s0 0 a1 oM,one i s1 1 b1 oM⟩)
 have hall:bu w g=cs.size:=by have h:=hv;simp only[World.var?,hg,bnS] at h;unfold bu;split at h;rename_i c _ _ hh;simp only[ao] at h;subst h;rw[hh];cases h
 refine dH (vs:=tab.flatMap λp=> [Value.string p.1,Value.string p.2]) (qI _ _ _) (λj v hj=>?_);have h1:=hcell j v hj;rw[Nat.zero_add,hall];rw[Nat.mul_zero,Nat.zero_add] at h1;exact⟨(Array.getElem?_eq_some_iff.1 h1).1,ov (by rw[World.var?_cell hg hv];exact h1) (hz (by have:=(Array.getElem?_eq_some_iff.1 h1).1;omega) j)⟩
end Go.Sk
namespace Go.Sk
end Go.Sk
namespace Go.Sk
open Go.RowKit (Below)
theorem Y1{a0 b:Prop}(k:b)(ha0:a0:=by exact O1 rfl (λ_=>rfl) rfl rfl):a0/\b:=⟨ha0,k⟩
theorem Y2{a0 a1 b:Prop}(k:b)(ha0:a0:=by exact O1 rfl (λ_=>rfl) rfl rfl)(ha1:a1:=by exact O1 rfl (λ_=>rfl) rfl rfl):a0/\a1/\b:=⟨ha0,ha1,k⟩
theorem Y3{a0 a1 a2 b:Prop}(k:b)(ha0:a0:=by exact O1 rfl (λ_=>rfl) rfl rfl)(ha1:a1:=by exact O1 rfl (λ_=>rfl) rfl rfl)(ha2:a2:=by exact O1 rfl (λ_=>rfl) rfl rfl):a0/\a1/\a2/\b:=⟨ha0,ha1,ha2,k⟩
theorem Y4{a0 a1 a2 a3 b:Prop}(k:b)(ha0:a0:=by exact O1 rfl (λ_=>rfl) rfl rfl)(ha1:a1:=by exact O1 rfl (λ_=>rfl) rfl rfl)(ha2:a2:=by exact O1 rfl (λ_=>rfl) rfl rfl)(ha3:a3:=by exact O1 rfl (λ_=>rfl) rfl rfl):a0/\a1/\a2/\a3/\b:=⟨ha0,ha1,ha2,ha3,k⟩
theorem Y5{a0 a1 a2 a3 a4 b:Prop}(k:b)(ha0:a0:=by exact O1 rfl (λ_=>rfl) rfl rfl)(ha1:a1:=by exact O1 rfl (λ_=>rfl) rfl rfl)(ha2:a2:=by exact O1 rfl (λ_=>rfl) rfl rfl)(ha3:a3:=by exact O1 rfl (λ_=>rfl) rfl rfl)(ha4:a4:=by exact O1 rfl (λ_=>rfl) rfl rfl):a0/\a1/\a2/\a3/\a4/\b:=⟨ha0,ha1,ha2,ha3,ha4,k⟩
theorem Y7{a0 a1 a2 a3 a4 a5 a6 b:Prop}(k:b)(ha0:a0:=by exact O1 rfl (λ_=>rfl) rfl rfl)(ha1:a1:=by exact O1 rfl (λ_=>rfl) rfl rfl)(ha2:a2:=by exact O1 rfl (λ_=>rfl) rfl rfl)(ha3:a3:=by exact O1 rfl (λ_=>rfl) rfl rfl)(ha4:a4:=by exact O1 rfl (λ_=>rfl) rfl rfl)(ha5:a5:=by exact O1 rfl (λ_=>rfl) rfl rfl)(ha6:a6:=by exact O1 rfl (λ_=>rfl) rfl rfl):a0/\a1/\a2/\a3/\a4/\a5/\a6/\b:=⟨ha0,ha1,ha2,ha3,ha4,ha5,ha6,k⟩
theorem X2a{a0 a1 b:Prop}(k:b)(h0:a0:=by exact O2 rfl (λ_=>rfl) rfl rfl)(h1:a1:=by exact O2 rfl (λ_=>rfl) rfl rfl):(a0/\a1/\True)/\b:=⟨⟨h0,h1,trivial⟩,k⟩
theorem X2d{a00 a01 a10 a11 a20 a21 a30 a31 b:Prop}(k:b)(ha00:a00:=by exact O2 rfl (λ_=>rfl) rfl rfl)(ha01:a01:=by exact O2 rfl (λ_=>rfl) rfl rfl)(ha10:a10:=by exact O2 rfl (λ_=>rfl) rfl rfl)(ha11:a11:=by exact O2 rfl (λ_=>rfl) rfl rfl)(ha20:a20:=by exact O2 rfl (λ_=>rfl) rfl rfl)(ha21:a21:=by exact O2 rfl (λ_=>rfl) rfl rfl)(ha30:a30:=by exact O2 rfl (λ_=>rfl) rfl rfl)(ha31:a31:=by exact O2 rfl (λ_=>rfl) rfl rfl):(a00/\a01/\True)/\(a10/\a11/\True)/\(a20/\a21/\True)/\(a30/\a31/\True)/\b:=⟨⟨ha00,ha01,trivial⟩,⟨ha10,ha11,trivial⟩,⟨ha20,ha21,trivial⟩,⟨ha30,ha31,trivial⟩,k⟩
theorem X3b{a00 a01 a02 a10 a11 a12 b:Prop}(k:b)(ha00:a00:=by exact O2 rfl (λ_=>rfl) rfl rfl)(ha01:a01:=by exact O2 rfl (λ_=>rfl) rfl rfl)(ha02:a02:=by exact O2 rfl (λ_=>rfl) rfl rfl)(ha10:a10:=by exact O2 rfl (λ_=>rfl) rfl rfl)(ha11:a11:=by exact O2 rfl (λ_=>rfl) rfl rfl)(ha12:a12:=by exact O2 rfl (λ_=>rfl) rfl rfl):(a00/\a01/\a02/\True)/\(a10/\a11/\a12/\True)/\b:=⟨⟨ha00,ha01,ha02,trivial⟩,⟨ha10,ha11,ha12,trivial⟩,k⟩
theorem rc{P:Program}{e:En}[T:Tys P]{l:List Oper}{rs:List AV}{base:Env}{sts:Nat->List AO}{k d c c':Nat}{o:Oper}{pk bk:List Nat}{a b:Bool}(hb:a=b)(h:∀F:Env,im T.t e.n l.toArray (sts c) 1 [o] (iD l rs base pk bk++F)=some ([],(d, .d (.v (.bool a)))::(iD l rs base pk bk++F)):=by exact λ_=>rfl)(hd:o.dst=some d:=by exact rfl)(hr:rs[k]? =some (.d (.v (.bool b))):=by exact rfl)(hu:sts c=sts c':=by exact rfl):Ob P e l rs base sts k o pk bk c c':=
 λF=>Rl 1 (h F) (WL.cast d (by simp[aX]) (wm (Cb hb)) (pf hd hr hu))
theorem zo{a b:Prop}(h:a)(k:b):(a/\True)/\b:=⟨⟨h,trivial⟩,k⟩
abbrev p00:List Nat×List Nat×List Nat:=([],[],[0])
abbrev p01(y0:Nat):List Nat×List Nat×List Nat:=([],[y0],[0])
abbrev q01(y0 z:Nat):List Nat×List Nat×List Nat:=([],[y0],[z])
abbrev p10(x0:Nat):List Nat×List Nat×List Nat:=([x0],[],[0])
abbrev q10(x0 z:Nat):List Nat×List Nat×List Nat:=([x0],[],[z])
abbrev p11(x0 y0:Nat):List Nat×List Nat×List Nat:=([x0],[y0],[0])
abbrev p20(x0 x1:Nat):List Nat×List Nat×List Nat:=([x0,x1],[],[0])
abbrev q20(x0 x1 z:Nat):List Nat×List Nat×List Nat:=([x0,x1],[],[z])
abbrev p30(x0 x1 x2:Nat):List Nat×List Nat×List Nat:=([x0,x1,x2],[],[0])
abbrev q30(x0 x1 x2 z:Nat):List Nat×List Nat×List Nat:=([x0,x1,x2],[],[z])
abbrev u01(y0:Nat):List Nat×List Nat×List Nat:=([],[y0],[0,1])
abbrev u10(x0:Nat):List Nat×List Nat×List Nat:=([x0],[],[0,1])
theorem Z6{α β γ δ ε ζ:Type}{a:α}{b:β}{c:γ}{d:δ}{e:ε}{f:ζ}:a=a/\b=b/\c=c/\d=d/\e=e/\f=f:=⟨rfl,rfl,rfl,rfl,rfl,rfl⟩
theorem Z2{α β:Type}{a:α}{b:β}:a=a/\b=b:=⟨rfl,rfl⟩
theorem Z4{α β γ δ:Type}{a:α}{b:β}{c:γ}{d:δ}:a=a/\b=b/\c=c/\d=d:=⟨rfl,rfl,rfl,rfl⟩
theorem Z3{α β γ:Type}{a:α}{b:β}{c:γ}:a=a/\b=b/\c=c:=⟨rfl,rfl,rfl⟩
theorem wF{P:Program}{e:En}{ops:Array Oper}{rest:List Oper}{env:Env}{st:List AO}{R:Env->List AO->Prop}{o:Oper}{d:Nat}{f:FuncId}{c:Call}{x:Operand}{first caps asz:List AV}{ds:List D}{y:D}(a:o.op= .call c/\c.callee= .value x/\opv env x=some (.fn (.func f) first caps)/\c4 env c.args.toList=some asz)(hc:Pu P f ds y)(hl:Les (first++asz++caps) (ds.map .d))
  (b:o.guard=none/\o.dst=some d/\Nat.ble (d+1) e.n=true)(h:WL P e ops rest ((d, .d y)::env) st R):WL P e ops (o::rest) env st R:=WL.fn a.1 a.2.1 a.2.2.1 a.2.2.2 hc hl (Wt.none b.1) b.2.1 b.2.2 h
theorem sS{P:Program}{e:En}{ops:Array Oper}{rest:List Oper}{env:Env}{st:List AO}{R:Env->List AO->Prop}{T:TypeId}{x y:Operand}{id off n:Nat}{T':TypeId}{cs:List AV}{r:AV}{rs:List AV}{ty:TypeId}{pos:String}{after:Array Edge}(a:opv env x=some (.pt id off)/\st[id]? =some (.row T' cs)/\opv env y=some r/\r.okc=true/\r.cells=rs/\rs.all AV.ok1=true)
  (hn:bn P T=some n)(b:rs.length=n/\Nat.ble (off+n) cs.length=true)(h:WL P e ops rest env (st.set id (.row T' (cs.take off++rs++cs.drop (off+n)))) R):WL P e ops (⟨none, .store T x y,ty,pos,after,none⟩::rest) env st R:=
 WL.s0 (uo a.1 a.2.1 a.2.2.1 a.2.2.2.1 a.2.2.2.2.1 a.2.2.2.2.2 hn b.1 b.2) (Wt.none rfl) rfl h
section
variable{P:Program}{e:En}{ops:Array Oper}{l:List Oper}{st:List AO}{env env0 env1:Env}{R:Env->List AO->Prop}
theorem Nn{t d:Nat}{b z:Bool}(n:Nat)(h1:env1=env1.take n++((t, .d (.v (.bool b)))::env0):=by exact rfl)(h2:gn (env1.take n) env0=true:=by exact rfl)(h3:Env.get (env1.take n) d=some (.d (.v (.bool z))):=by exact rfl):WL P e ops [] env1 st (λenv' st'=>st'=st/\GrpJ env0 t b d z env'):=WL.nil ⟨rfl,env1.take n,h1,h2,h3⟩
theorem Rn [T:Tys P]{t d:Nat}{b z:Bool}(k n:Nat)(h:im T.t e.n ops st k l env=some ([],env1):=by exact rfl)(h1:env1=env1.take n++((t, .d (.v (.bool b)))::env0):=by exact rfl)(h2:gn (env1.take n) env0=true:=by exact rfl)(h3:Env.get (env1.take n) d=some (.d (.v (.bool z))):=by exact rfl):WL P e ops l env st (λenv' st'=>st'=st/\GrpJ env0 t b d z env'):=Rl k h (Nn n h1 h2 h3)
theorem On [T:Tys P]{t d:Nat}{b z z':Bool}(k n:Nat)(hz:some z'=some z)(h:im T.t e.n ops st k l env=some ([],env1):=by exact rfl)(h1:env1=env1.take n++((t, .d (.v (.bool b)))::env0):=by exact rfl)(h2:gn (env1.take n) env0=true:=by exact rfl)(h3:Env.get (env1.take n) d=some (.d (.v (.bool z'))):=by exact rfl):WL P e ops l env st (λenv' st'=>st'=st/\GrpJ env0 t b d z env'):=Rn k n h h1 h2 (h3.trans (by rw[inS hz]))
theorem AG [T:Tys P]{env2:Env}(k t d a n:Nat){x y:Bool}(hr:WL P e ops (l.drop k) ((d, .d (.v (.bool (x&&y))))::env) st R)(hx:env.get t=some (.d (.v (.bool x))):=by exact rfl)(h:im T.t e.n ops st a (l.take k) ((t, .d (.v (.bool true)))::env)=some ([],env1):=by exact rfl)(h1:env1=env1.take n++((t, .d (.v (.bool true)))::env):=by exact rfl)(h2:gn (env1.take n) env=true:=by exact rfl)(h3:Env.get (env1.take n) d=some (.d (.v (.bool y))):=by exact rfl)
  (g:im T.t e.n ops st a (l.take k) ((t, .d (.v (.bool false)))::env)=some ([],env2):=by exact rfl)(g1:env2=env2.take n++((t, .d (.v (.bool false)))::env):=by exact rfl)(g2:gn (env2.take n) env=true:=by exact rfl)(g3:Env.get (env2.take n) d=some (.d (.v (.bool false))):=by exact rfl):WL P e ops l env st R:=WL.and k hx (λ_=>Rn a n h h1 h2 h3) (Rn a n g g1 g2 g3) hr
theorem OG [T:Tys P]{env2:Env}(k t d a n:Nat){x y:Bool}(hr:WL P e ops (l.drop k) ((d, .d (.v (.bool (x||y))))::env) st R)(hx:env.get t=some (.d (.v (.bool x))):=by exact rfl)(h:im T.t e.n ops st a (l.take k) ((t, .d (.v (.bool false)))::env)=some ([],env1):=by exact rfl)(h1:env1=env1.take n++((t, .d (.v (.bool false)))::env):=by exact rfl)(h2:gn (env1.take n) env=true:=by exact rfl)(h3:Env.get (env1.take n) d=some (.d (.v (.bool y))):=by exact rfl)
  (g:im T.t e.n ops st a (l.take k) ((t, .d (.v (.bool true)))::env)=some ([],env2):=by exact rfl)(g1:env2=env2.take n++((t, .d (.v (.bool true)))::env):=by exact rfl)(g2:gn (env2.take n) env=true:=by exact rfl)(g3:Env.get (env2.take n) d=some (.d (.v (.bool true))):=by exact rfl):WL P e ops l env st R:=WL.or k hx (λ_=>Rn a n h h1 h2 h3) (Rn a n g g1 g2 g3) hr
theorem Gg(k t d:Nat)(z:Bool){x:Bool}{β:Type}{a b w:β}(hb:(bif x then a else b)=w)(h1:a=w->WL P e ops (l.take k) ((t, .d (.v (.bool true)))::env) st λenv' st'=>st'=st/\GrpJ env t true d z env')(h0:b=w->WL P e ops (l.take k) ((t, .d (.v (.bool false)))::env) st λenv' st'=>st'=st/\GrpJ env t false d z env')
  (hr:WL P e ops (l.drop k) ((d, .d (.v (.bool z)))::env) st R)(hx:env.get t=some (.d (.v (.bool x))):=by exact rfl):WL P e ops l env st R:=WL.grp k hx (λhh=>h1 (ff hb hh)) (λhh=>h0 (fg hb hh)) hr
end
theorem fI{P:Program}{f:FuncId}{fn:Func}{c:Code}{asz:List D}{x:D}{n:Nat}(hf:P.funcs[f]? =some fn)(h:∀φ w,WC P ⟨[],φ,w,n,none,none⟩ c (.fin fn (λr' st'=>r'= .d x/\st'=[])) (fW 0 (asz.map .d)) [])(h1:(fn.name== "runtime.NumGoroutine")=false:=by kernel_rfl)
  (h2:fn.body=some c:=by exact rfl)(h3:fn.ntmps=n:=by exact rfl)(h4:Nat.ble (asz.map AV.d).length n=true:=by exact rfl):Pu P f asz x:=sQ hf h1 h2 h3 h4 h
theorem cI{P:Program}{f:FuncId}{fn:Func}{c:Code}{asz:List AV}{st:List AO}{Q:AV->List AO->Prop}{n:Nat}(hf:P.funcs[f]? =some fn)(h:∀m φ w,m.length=st.length->WC P ⟨m,φ,w,n,none,none⟩ c (.fin fn Q) (fW 0 asz) st)(h1:(fn.name== "runtime.NumGoroutine")=false:=by kernel_rfl)
  (h2:fn.body=some c:=by exact rfl)(h3:fn.ntmps=n:=by exact rfl)(h4:Nat.ble asz.length n=true:=by exact rfl):Ctr P f asz st Q:=mw hf h1 h2 h3 h4 h
end Go.Sk
