/-
  The library's sort and its compaction of integers, asz contracts over a slice of our own.
-/
import Derived.Sort.OwnSortedInts
import Derived.Shelf.Slices.CompactI
import Derived.ProofKit
import Derived.SizedLaws
import Derived.LaidMore
import Derived.OpenShut
import Derived.Stop.Joined
import Derived.ChangeArms
import Derived.ChangeSame
import Derived.Test.YtpodhdopgcedlaaGreatDoorSc
set_option linter.unusedVariables false
set_option linter.unusedSimpArgs false
set_option linter.unusedSectionVars false
set_option linter.unnecessarySimpa false
namespace Go.Sk
open Go.RowKit (Below)
open Go.Sort (Holds putRow grow)
abbrev EI(x:Int):List D:=[.i .i64 x]
def iv(L:List Int):List Value:=L.map (Value.int .i64)
theorem eG{m φ w}:∀{L:List Int}{vs:List Value},RAs m φ w (L.map (aY EI)).flatten vs↔vs=iv L
 |[],vs=>by simp[RAs,iv]
 |x::L,vs=>by
  simp only[List.map_cons,List.flatten_cons,aY,List.map_nil,List.cons_append,List.nil_append,RAs,RA,RD,iv]
  constructor
  ·rintro⟨c,cs,rfl,rfl,h⟩
   rw[(eG (L:=L)).1 h,iv]
  ·rintro rfl
   exact⟨_,_,rfl,rfl,(eG (L:=L)).2 rfl⟩
theorem mo(L:List Int):∀e∈L.map (aY EI),e.length=1:=λe he=>by
 obtain⟨x,_,rfl⟩:=List.mem_map.1 he
 rfl
theorem vF{P:Program}{f:FuncId}{T ver:Nat}{L L':List Int}(hcan:fC P f)(_hlen:L'.length=L.length)
  (h:∀(w:World)(y:Value),w.ownsRow 0 T 1 y L.length (iv L)→Calls P f ⟨[y]⟩ w λe w'=>e= .returned (.tuple #[])∧w'.ownsRow 0 T 1 y L'.length (iv L')∧w.grownBy w' y.ownBlock):
  Ctr P f [.os 0 ver] [.os T 1 ver (L.map (aY EI))] (gy 1 (.tu []) λ_=> [.os T 1 ver (L'.map (aY EI))]):=by
 refine⟨hcan,λm φ w vs hs ha=>?_⟩
 simp only[RAs] at ha
 obtain⟨y,_,rfl,h1,rfl⟩:=ha
 simp only[RA] at h1
 obtain⟨v0,y0,g1,g2,g3⟩:=h1
 obtain⟨y1,xs,e1,r1,r2,r3,r4⟩:=hs.obj 0 _ _ rfl g1
 simp only[Cz.tok.injEq] at e1
 obtain⟨rfl,rfl⟩:=e1
 have:=g3 rfl
 subst this
 have hx:=eG.1 r2
 subst hx
 rw[List.length_map] at r1
 refine(h w y r1).mono ?_
 rintro e w' ⟨rfl,k1,k2⟩
 have hF:Fz φ w φ w':=λb off cc q1 q2=>⟨q1,by
  have hlt:=bK hs q1
  have hne:some b≠y.ownBlock:=λe=>by have:=r4 b e.symm;omega
  rw[aP (k2.block b hlt hne)];exact q2⟩
 have hm:m.set 0 (.tok v0 y)=m:=by
  apply List.ext_getElem?
  intro i
  by_cases hi:i=0
  ·subst hi
   rw[List.getElem?_set_self (cf g1),g1]
  ·rw[List.getElem?_set_ne (Ne.symm hi)]
 obtain⟨q1,q2⟩:=dv (o':= .os T 1 v0 (L'.map (aY EI))) (c':= .tok v0 y) (φ':=φ) hs (id:=0) rfl rfl g1 (Cz.le_refl _) k2.os k2.tape k2.output k2.size
  (λb hb hn=>⟨k2.block b hb (λe=>hn (by simp[Cz.has,←e])),rfl⟩) hF (λb hb=>hs.lt b (Nat.le_trans k2.size hb)) (λb hb=> .inl hb)
  ⟨y,_,rfl,by rw[List.length_map];exact k1,eG.2 rfl,mo L',r4⟩
 rw[hm] at q1 q2
 exact⟨.tuple #[], .d (.tu []),[.os T 1 v0 (L'.map (aY EI))],m,φ,rfl,⟨v0,rfl,sM,rfl⟩,q1,q2,by simp[RA,RD,RFs]⟩
theorem kA{w:World}{T g cap n:Nat}{L:List Int}(h:w.ownsRow 0 T 1 (.slice (some ⟨g,0,none⟩) n cap) n (iv L))(hn:n=L.length):Holds (Value.int .i64) w g 0 L.toArray:=λj hj=>by
 subst hn
 rcases h.2 with⟨hv,_⟩|⟨g',cap',cur,hv,_,hh,_⟩
 ·cases hv
 ·cases hv
  have hj':j<L.length:=by simpa using hj
  refine⟨?_,?_⟩
  ·have:=h.cellAt j oM
   rw[Nat.zero_add,this]
   simp[iv,hj']
  ·simp[World.frozen?,hh]
theorem vG{P:Program}{f:FuncId}{T ver:Nat}{L:List Int}(hcan:fC P f)
  (hs:∀(blk off cap:Nat)(zs:List Int)(w:World),Holds (Value.int .i64) w blk off zs.toArray→blk<w.heap.size→zs.length<4611686018427387904→
   Calls P f #[.slice (some ⟨blk,off,none⟩) zs.length cap] w λe w'=>e= .returned (.tuple #[])∧∃n os,w'=grow (putRow (Value.int .i64) (Sort.ahead w n) blk off (zs.mergeSort λx y=>decide (x≤y)).toArray) os)
  (hn:∀(p:Option Addr)(cap:Nat)(w:World),Calls P f #[.slice p 0 cap] w λe w'=>e= .returned (.tuple #[])∧w'=w)(hl:L.length<4611686018427387904):
  Ctr P f [.os 0 ver] [.os T 1 ver (L.map (aY EI))] (gy 1 (.tu []) λ_=> [.os T 1 ver ((L.mergeSort λx y=>decide (x≤y)).map (aY EI))]):=by
 refine vF hcan sM (λw y hown=>?_)
 have hown':=hown
 obtain⟨h1,h2⟩:=hown
 rcases h2 with⟨rfl,h2⟩|⟨g,cap,cur,rfl,_,p2,p3,p4,p5,p6⟩
 ·have:L=[]:=List.eq_nil_of_length_eq_zero h2
  subst this
  refine(hn none 0 w).mono ?_
  rintro e w' ⟨rfl,rfl⟩
  exact⟨rfl,by simpa[iv] using World.ownsRow_nil w' 0 T 1,World.grownBy.refl _ _⟩
 ·refine(hs g 0 cap L w (kA hown' rfl) (Array.getElem?_eq_some_iff.1 p2).1 hl).mono ?_
  rintro e w' ⟨rfl,n,os,rfl⟩
  have:=ownsRow_sortedI (w:=w) (base:=0) (n:=n) (os:=os) (ss:=L) (ts:=L.mergeSort λx y=>decide (x≤y)) sM (Nat.zero_le g) p2 p3 p4 p5
  exact⟨rfl,by simpa[iv] using this,grownBy_sortedI _⟩
theorem xH{P:Program}{f:FuncId}{T ver:Nat}{L L':List Int}(hcan:fC P f)
  (h:∀(w:World)(y:Value),w.ownsRow 0 T 1 y L.length (iv L)→Calls P f ⟨[y]⟩ w λe w'=>∃y',e= .returned y'∧y'.ownBlock=y.ownBlock∧w'.ownsRow 0 T 1 y' L'.length (iv L')∧w.grownBy w' y.ownBlock):
  Ctr P f [.os 0 ver] [.os T 1 ver (L.map (aY EI))] (gy 1 (.sl (L'.map EI)) λ_=> [.dead]):=by
 refine⟨hcan,λm φ w vs hs ha=>?_⟩
 simp only[RAs] at ha
 obtain⟨y,_,rfl,h1,rfl⟩:=ha
 simp only[RA] at h1
 obtain⟨v0,y0,g1,g2,g3⟩:=h1
 obtain⟨y1,xs,e1,r1,r2,r3,r4⟩:=hs.obj 0 _ _ rfl g1
 simp only[Cz.tok.injEq] at e1
 obtain⟨rfl,rfl⟩:=e1
 have:=g3 rfl
 subst this
 have hx:=eG.1 r2
 subst hx
 rw[List.length_map] at r1
 refine(h w y r1).mono ?_
 rintro e w' ⟨y',rfl,k0,k1,k2⟩
 have hF:Fz φ w φ w':=λb off cc q1 q2=>⟨q1,by
  have hlt:=bK hs q1
  have hne:some b≠y.ownBlock:=λe=>by have:=r4 b e.symm;omega
  rw[aP (k2.block b hlt hne)];exact q2⟩
 obtain⟨q1,q2⟩:=dv (o':= .os T 1 (v0+1) (L'.map (aY EI))) (c':= .tok (v0+1) y') (φ':=φ) hs (id:=0) rfl rfl g1 (eg _ _ _) k2.os k2.tape k2.output k2.size
  (λb hb hn=>⟨k2.block b hb (λe=>hn (by simp[Cz.has,←e])),rfl⟩) hF (λb hb=>hs.lt b (Nat.le_trans k2.size hb)) (λb hb=> .inl (by simpa[Cz.has,k0] using hb))
  ⟨y',_,rfl,by rw[List.length_map];exact k1,eG.2 rfl,mo L',λb hb=>r4 b (by rw[←k0];exact hb)⟩
 have hst:([AO.os T 1 v0 (L.map (aY EI))].set 0 (.os T 1 (v0+1) (L'.map (aY EI))))=[.os T 1 (v0+1) ((L'.map EI).map λe=>e.map AV.d)]:=by simp[List.map_map,aY,Function.comp_def]
 rw[hst] at q2
 obtain⟨φ',f1,f2,f3⟩:=kB (id:=0) (y:=y') q2 rfl (by rw[List.getElem?_set_self (cf g1)])
 exact⟨y', .d (.sl (L'.map EI)),[.dead],_,φ',rfl,⟨0,rfl,sM,rfl⟩,q1.trans f1,f2,by simpa[RA] using f3⟩
theorem mN(cur:Array Value)(n:Nat)(ts zs:List Int)(_hn:n≤cur.size)(h:ts.length+zs.length≤cur.size):(Sort.putCells (Value.int .i64) 0 (ts++zs).toArray cur).toList.take ts.length=iv ts:=by
 apply List.ext_getElem?
 intro j
 by_cases hj:j<ts.length
 ·rw[List.getElem?_take_of_lt hj,Array.getElem?_toList]
  simp[Sort.putCells,iv,hj,show j<cur.size by omega,show j<ts.length+zs.length by omega,List.getElem_append_left hj]
 ·rw[List.getElem?_take_eq_none oM,List.getElem?_eq_none (by simp[iv];omega)]
theorem pU{P:Program}{f:FuncId}{T ver:Nat}{L:List Int}(hcan:fC P f)
  (hs:∀(blk off cap:Nat)(zs:List Int)(w:World),Holds (Value.int .i64) w blk off zs.toArray→zs.length≤9223372036854775807→zs.length≤cap→
   Calls P f #[.slice (some ⟨blk,off,none⟩) zs.length cap] w λe w'=>e= .returned (.slice (some ⟨blk,off,none⟩) (Lib.compact zs).length cap)∧∃q,w'=putRow (Value.int .i64) (Sort.ahead w q) blk off (Lib.compact zs++List.replicate (zs.length - (Lib.compact zs).length) 0).toArray)
  (hn:∀(p:Option Addr)(cap:Nat)(w:World),Calls P f #[.slice p 0 cap] w λe w'=>e= .returned (.slice p 0 cap)∧w'=w)(hc:(Lib.compact L).length≤L.length):
  Ctr P f [.os 0 ver] [.os T 1 ver (L.map (aY EI))] (gy 1 (.sl ((Lib.compact L).map EI)) λ_=> [.dead]):=by
 refine xH hcan (λw y hown=>?_)
 have hown':=hown
 obtain⟨h1,h2⟩:=hown
 rcases h2 with⟨rfl,h2⟩|⟨g,cap,cur,rfl,_,p2,p3,p4,p5,p6⟩
 ·have:L=[]:=List.eq_nil_of_length_eq_zero h2
  subst this
  have hc0:Lib.compact ([]:List Int)=[]:=List.eq_nil_of_length_eq_zero (by simpa using hc)
  refine(hn none 0 w).mono ?_
  rintro e w' ⟨rfl,rfl⟩
  exact⟨_,rfl,rfl,by rw[hc0];exact World.ownsRow_nil w' 0 T 1,World.grownBy.refl _ _⟩
 ·refine(hs g 0 cap L w (kA hown' rfl) (by simp only[maxLen] at p4;omega) p3).mono ?_
  rintro e w' ⟨rfl,q,rfl⟩
  refine⟨_,rfl,rfl,⟨by simp[iv], .inr ⟨g,cap,Sort.putCells (Value.int .i64) 0 (Lib.compact L++List.replicate (L.length - (Lib.compact L).length) 0).toArray cur,rfl,Nat.zero_le _,?_,oM,p4,?_,?_⟩⟩,?_⟩
  ·have:=heap_sortedI (w:=w) (g:=g) (n:=q) (os:= #[]) (Lib.compact L++List.replicate (L.length - (Lib.compact L).length) 0).toArray p2
   simpa using this
  ·simp[Sort.putCells,p5]
  ·rw[Nat.mul_one]
   exact mN cur 0 _ _ (Nat.zero_le _) (by rw[List.length_replicate];omega)
  ·have:=grownBy_sortedI (w:=w) (g:=g) (n:=q) (os:= #[]) (Lib.compact L++List.replicate (L.length - (Lib.compact L).length) 0).toArray
   show w.grownBy _ (some g)
   simpa using this
open Go.Sort (Holds putRow grow putCells mapBlock)
theorem pr{w:World}{g n:Nat}{cur:Array Value}{e:TypeId}{x:Int}{ts:List Int}(hb:w.heap[g]? =some (.cells cur e (0,0)))(hx:cur[0]? =some (.int .i64 x)):
  putRow (Value.int .i64) (Sort.ahead w n) g 1 ts.toArray=putRow (Value.int .i64) (Sort.ahead w n) g 0 (x::ts).toArray:=by
 have key:putCells (Value.int .i64) 1 ts.toArray cur=putCells (Value.int .i64) 0 (x::ts).toArray cur:=by
  apply Array.ext_getElem?
  intro k
  unfold putCells
  rw[Array.getElem?_mapIdx,Array.getElem?_mapIdx]
  cases hk:cur[k]? with
  |none=>rfl
  |some c=>
   simp only[Option.map_some,am]
   cases k with
   |zero=>
    rw[hk,am] at hx
    subst hx
    simp
   |succ k=>
    simp only[Nat.zero_le,true_and,List.size_toArray,List.length_cons,Nat.sub_zero,Nat.zero_add,Nat.add_sub_cancel]
    by_cases h:k<ts.length
    ·rw[if_pos oM,if_pos oM]
     simp[h]
    ·rw[if_neg oM,if_neg oM]
 unfold putRow mapBlock
 congr 1
 apply Array.ext_getElem?
 intro i
 rw[Array.getElem?_modify,Array.getElem?_modify]
 by_cases hi:g=i
 ·subst hi
  rw[if_pos rfl,if_pos rfl]
  show Option.map _ (w.heap[g]?)=Option.map _ (w.heap[g]?)
  rw[hb]
  simp only[Option.map_some,am]
  unfold Sort.onCells
  simp only[key]
 ·rw[if_neg hi,if_neg hi]
theorem tM{P:Program}{f:FuncId}{T ver n:Nat}{L:List Int}(hcan:fC P f)
  (hs:∀(blk off cap:Nat)(zs:List Int)(w:World),Holds (Value.int .i64) w blk off zs.toArray→blk<w.heap.size→zs.length<4611686018427387904→
   Calls P f #[.slice (some ⟨blk,off,none⟩) zs.length cap] w λe w'=>e= .returned (.tuple #[])∧∃n os,w'=grow (putRow (Value.int .i64) (Sort.ahead w n) blk off (zs.mergeSort λx y=>decide (x≤y)).toArray) os)
  (hn:∀(p:Option Addr)(cap:Nat)(w:World),Calls P f #[.slice p 0 cap] w λe w'=>e= .returned (.tuple #[])∧w'=w)(hl:L.length<4611686018427387904)(h1:1≤L.length)(hlen:n=L.length - 1):
  Ctr P f [.ow 0 ver 1 n 1] [.os T 1 ver (L.map (aY EI))] (gy 1 (.tu []) λ_=> [.os T 1 ver ((L.take 1++(L.drop 1).mergeSort λx y=>decide (x≤y)).map (aY EI))]):=by
 obtain⟨x,Lt,rfl⟩:∃x Lt,L=x::Lt:=by
  cases L with
  |nil=>simp at h1
  |cons x L=>exact⟨x,L,rfl⟩
 simp only[List.take_succ_cons,List.take_zero,List.drop_succ_cons,List.drop_zero,List.cons_append,List.nil_append]
 have hn1:n=Lt.length:=by simpa using hlen
 subst hn1
 refine⟨hcan,λm φ w vs hsr ha=>?_⟩
 simp only[RAs] at ha
 obtain⟨z,_,rfl,hz,rfl⟩:=ha
 simp only[RA] at hz
 obtain⟨v0,y,g1,g2,g3⟩:=hz
 obtain⟨y1,xs,e1,r1,r2,r3,r4⟩:=hsr.obj 0 _ _ rfl g1
 simp only[Cz.tok.injEq] at e1
 obtain⟨rfl,rfl⟩:=e1
 have g3:=g3 rfl
 have hx:=eG.1 r2
 subst hx
 rw[List.length_map] at r1
 -- what the call leaves
 have main:Calls P f ⟨[z]⟩ w λe w'=>e= .returned (.tuple #[])∧w'.ownsRow 0 T 1 y (x::Lt.mergeSort λx y=>decide (x≤y)).length (iv (x::Lt.mergeSort λx y=>decide (x≤y)))∧w.grownBy w' y.ownBlock:=by
  have r1':=r1
  rcases g3 with⟨rfl,rfl,hz0⟩|⟨b,nn,cap,off',rfl,rfl,hoff⟩
  ·obtain⟨q1,q2⟩:=r1
   rcases q2 with⟨_,q2⟩|⟨_,_,_,q2,_⟩
   ·omega
   ·cases q2
  ·by_cases hz0:Lt.length=0
   ·have h0:Lt=[]:=List.eq_nil_of_length_eq_zero hz0
    subst h0
    refine(hn (some ⟨b,off',none⟩) (cap - 1) w).mono ?_
    rintro e w' ⟨rfl,rfl⟩
    exact⟨rfl,by simpa using r1,World.grownBy.refl _ _⟩
   ·have ho:off'=1:=hoff.resolve_right hz0
    subst ho
    obtain⟨q1,q2⟩:=r1
    rcases q2 with⟨q2,_⟩|⟨g,cap',cur,q2,p1,p2,p3,p4,p5,p6⟩
    ·cases q2
    ·cases q2
     have hH:=kA r1' rfl
     have hcur:cur[0]? =some (.int .i64 x):=by
      have hc:=(hH 0 sM).1
      rw[Nat.zero_add] at hc
      unfold World.cell? at hc
      rw[p2] at hc
      simpa using hc
     have hT:Holds (Value.int .i64) w b 1 Lt.toArray:=λj hj=>by
      have hj':j<Lt.length:=by simpa using hj
      have:=hH (j+1) (by simpa using hj')
      rw[Nat.zero_add] at this
      rw[Nat.add_comm 1 j]
      refine⟨?_,this.2⟩
      rw[this.1]
      simp[hj']
     refine(hs b 1 (cap - 1) Lt w hT (Array.getElem?_eq_some_iff.1 p2).1 (by simp at hl;omega)).mono ?_
     rintro e w' ⟨rfl,nd,os,rfl⟩
     rw[pr p2 hcur]
     have hlen2:(x::Lt.mergeSort λx y=>decide (x≤y)).length=(x::Lt).length:=sM
     have k:=ownsRow_sortedI (w:=w) (base:=0) (n:=nd) (os:=os) (ss:=x::Lt) (ts:=x::Lt.mergeSort λx y=>decide (x≤y)) hlen2 (Nat.zero_le b) p2 p3 p4 p5
     refine⟨rfl,?_,grownBy_sortedI _⟩
     rw[hlen2]
     exact k
 refine main.mono ?_
 rintro e w' ⟨rfl,k1,k2⟩
 have hF:Fz φ w φ w':=λb off cc q1 q2=>⟨q1,by
  have hlt:=bK hsr q1
  have hne:some b≠y.ownBlock:=λe=>by have:=r4 b e.symm;omega
  rw[aP (k2.block b hlt hne)];exact q2⟩
 have hm:m.set 0 (.tok v0 y)=m:=by
  apply List.ext_getElem?
  intro i
  by_cases hi:i=0
  ·subst hi
   rw[List.getElem?_set_self (cf g1),g1]
  ·rw[List.getElem?_set_ne (Ne.symm hi)]
 obtain⟨q1,q2⟩:=dv (o':= .os T 1 v0 ((x::Lt.mergeSort λx y=>decide (x≤y)).map (aY EI))) (c':= .tok v0 y) (φ':=φ) hsr (id:=0) rfl rfl g1 (Cz.le_refl _) k2.os k2.tape k2.output k2.size
  (λb hb hn=>⟨k2.block b hb (λe=>hn (by simp[Cz.has,←e])),rfl⟩) hF (λb hb=>hsr.lt b (Nat.le_trans k2.size hb)) (λb hb=> .inl hb)
  ⟨y,_,rfl,by rw[List.length_map];exact k1,eG.2 rfl,mo _,r4⟩
 rw[hm] at q1 q2
 exact⟨.tuple #[], .d (.tu []),[.os T 1 v0 _],m,φ,rfl,⟨v0,rfl,sM,rfl⟩,q1,q2,by simp[RA,RD,RFs]⟩
open Go.ChangeShapes Go.WideShapes Go.ChangeAt Go.RowKit
theorem kQ{H:Type}{enc:TypeId×Value→H}{P:Program}{w:World}{base:Nat}{spare:Nat→Bool}{held:Bool}:∀{ts:List TypeId}{vs:List Value}{ds:List (DataW H)}{ps:List MemPlace},DataW.TrodAll enc P w base spare held ts vs ds ps→ds.length=ts.length∧vs.length=ts.length
 |[],[],[],_,_=>⟨rfl,rfl⟩
 |t::ts,v::vs,d::ds,ps,h=>by
  obtain⟨p,q,_,h2,_⟩:=h
  have:=kQ h2
  simp[this.1,this.2]
 |[],[],_::_,_,h=>h.elim
 |[],_::_,_,_,h=>h.elim
 |_::_,[],_,_,h=>h.elim
 |_::_,_::_,[],_,h=>h.elim
theorem iR{H:Type}{enc:TypeId×Value→H}{P:Program}(hl:laidOutB P=true){W W':World}(hb:Below W.heap.size W W'):∀{ts:List TypeId}{vs:List Value}{ds:List (DataW H)}{ps:List MemPlace},
  (ts.all λt=>P.readableRec t&&decide (t<P.types.size))=true→DataW.TrodAll enc P W 0 (λ_=>true) true ts vs ds ps→(∀x∈ps,x.block<W.heap.size)→DataW.TrodAll enc P W' 0 (λb=>decide (b<W.heap.size)) true ts vs ds ps
 |[],[],[],ps,_,h,_=>h
 |t::ts,v::vs,d::ds,ps,ht,h,hlt=>by
  obtain⟨p,q,h1,h2,rfl⟩:=h
  simp only[List.all_cons,Bool.and_eq_true,decide_eq_true_eq] at ht
  exact⟨p,q,Below.trod hl ht.1.1 ht.1.2 h1 hb (λx hx=>hlt x (by simp[hx])),iR hl hb ht.2 h2 (λx hx=>hlt x (by simp[hx])),rfl⟩
 |[],[],_::_,_,_,h,_=>h.elim
 |[],_::_,_,_,_,h,_=>h.elim
 |_::_,[],_,_,_,h,_=>h.elim
 |_::_,_::_,[],_,_,h,_=>h.elim
def aU(W:World)(b:Nat):Nat:=match W.heap[b]? with|some (.cells c _ _)=>c.size|_=>0
theorem pi(W:World)(hg:Gl (aU W) W):SR [] (aU W) [] W where
 len:=rfl
 obj i o c h:=by simp at h
 lt b hb:=by simp[aU,hb]
 inj i j o o' c c' b h:=by simp at h
 gl:=hg
 nb b h:=by obtain⟨i,c,h,_⟩:=h;simp at h
theorem qb{P:Program}{f:FuncId}{ds:List D}{W:World}{vs:List Value}(hg:Gl (aU W) W)(h:Pu P f ds (.b true))(ha:RAs [] (aU W) W (ds.map .d) vs):Calls P f ⟨vs⟩ W λe W'=>e= .returned (.bool true)∧Below W.heap.size W W':=by
 refine(h.2 [] (aU W) W vs (pi W hg) ha).mono ?_
 rintro en w' ⟨v,r,st',m',φ',rfl,⟨rfl,rfl⟩,hev,_,hra⟩
 simp only[RA,RD] at hra
 subst hra
 exact⟨rfl,hev.os,hev.tape,hev.output,hev.size,λb hb=>(hev.keep b hb (by rintro⟨i,c,h,_⟩;simp at h)).1⟩
section
variable{H:Type}{enc:TypeId×Value→H}{P:Program}{W:World}{spare:Nat→Bool}{held:Bool}
theorem xN{W:World}{b off:Nat}{c:Value}(h:W.cell? ⟨b,off,none⟩=some c):off<aU W b:=by
 unfold World.cell? at h
 unfold aU
 split at h
 ·rename_i cs t fr hh
  simp only at hh
  rw[hh]
  simp only[Option.isSome_none,Bool.false_eq_true,if_false] at h
  exact(Array.getElem?_eq_some_iff.1 h).1
 ·cases h
def Reads(enc:TypeId×Value→H)(P:Program)(W:World)(spare:Nat→Bool)(held:Bool)(fuel:Nat)(T:TypeId){α:Type}(E:α→List D)(G:α→Prop):Prop:=
 ∀cs y,DataW.trod enc P W 0 spare held fuel T cs=some y→∃x,RFs (aU W) W (E x) cs∧G x
theorem Reads.zero{T:TypeId}{α:Type}{E:α→List D}{G:α→Prop}:Reads enc P W spare held 0 T E G:=λcs y h=>by simp[DataW.trod] at h
theorem ax{T:TypeId}{k:IntKind}(hT:P.underlying T=some (.int k)):∀fuel,Reads enc P W spare held fuel T (λn:Int=> [.i k n]) (λn=>k.min≤n∧n≤k.max)
 |0=>Reads.zero
 |fuel+1=>λcs y h=>by
  rcases cs with _|⟨v,_|⟨v2,r⟩⟩
  ·simp[DataW.trod,hT] at h
  ·cases v<;>simp only[DataW.trod,hT,reduceCtorEq] at h
   rename_i k' n
   split at h
   ·rename_i hc
    obtain⟨rfl,hw⟩:=hc
    refine⟨n,by simp[RFs,RD],?_⟩
    simpa[Lit.wf,IntKind.has] using hw
   ·cases h
  ·simp[DataW.trod,hT] at h
theorem l7{T:TypeId}(hT:P.underlying T=some .bool):∀fuel,Reads enc P W spare held fuel T (λb:Bool=> [.b b]) (λ_=>True)
 |0=>Reads.zero
 |fuel+1=>λcs y h=>by
  rcases cs with _|⟨v,_|⟨v2,r⟩⟩
  ·simp[DataW.trod,hT] at h
  ·cases v<;>simp only[DataW.trod,hT,reduceCtorEq] at h
   rename_i b
   exact⟨b,by simp[RFs,RD],trivial⟩
  ·simp[DataW.trod,hT] at h
theorem fQ{α β:Type}{f:α→Option β}:∀{l:List α}{r:List β},l.mapM f=some r→∀(i:Nat)(a:α),l[i]? =some a→∃b,f a=some b∧r[i]? =some b
 |[],r,h,i,a,ha=>by simp at ha
 |x::l,r,h,i,a,ha=>by
  rw[List.mapM_cons] at h
  cases hx:f x with
  |none=>simp[hx] at h
  |some b=>
   cases hl:l.mapM f with
   |none=>simp[hx,hl] at h
   |some bs=>
    simp only[hx,hl,Option.bind_eq_bind,bnS,Option.pure_def,am] at h
    subst h
    cases i with
    |zero=>simp only[List.getElem?_cons_zero,am] at ha;subst ha;exact⟨b,hx,rfl⟩
    |succ i=>obtain⟨c,h1,h2⟩:=fQ hl i a (by simpa using ha);exact⟨c,h1,by simpa using h2⟩
theorem rG{φ w}:∀{xs:List D}{vs:List Value}{ys:List D}{us:List Value},RFs φ w xs vs→RFs φ w ys us→RFs φ w (xs++ys) (vs++us)
 |[],vs,ys,us,h,k=>by simp only[RFs] at h;subst h;exact k
 |x::xs,vs,ys,us,h,k=>by
  simp only[RFs] at h
  obtain⟨c,cs,rfl,h1,h2⟩:=h
  simp only[List.cons_append,RFs]
  exact⟨c,cs++us,rfl,h1,rG h2 k⟩
theorem pq{e:TypeId}{α:Type}{E:α→List D}{G:α→Prop}{fuel k:Nat}{b off:Nat}(hk:P.cellsOf e=k)(hE:∀x,(E x).length=k)(he:Reads enc P W spare held fuel e E G):
  ∀n:Nat,(∀i,i<n→∃y,(W.cells? 0 (Addr.add ⟨b,off,none⟩ (i*P.cellsOf e)) (P.cellsOf e)).bind (DataW.trod enc P W 0 spare held fuel e)=some y)→∃L:List α,L.length=n∧REs (aU W) W (L.map E) k b off∧∀x∈L,G x:=by
 intro n
 induction n generalizing off with
 |zero=>intro _;exact⟨[],rfl,by simp[REs],sM⟩
 |succ n ih=>
  intro h
  obtain⟨y,hy⟩:=h 0 (Nat.succ_pos n)
  obtain⟨cs,h1,h2⟩:=Option.bind_eq_some_iff.1 hy
  obtain⟨x,hx,gx⟩:=he cs y h2
  obtain⟨L,l1,l2,l3⟩:=ih (off:=off+k) (λi hi=>by
   obtain⟨y,hy⟩:=h (i+1) oM
   refine⟨y,?_⟩
   rw[←hy,hk]
   rw[cA,cA,Nat.succ_mul,show off+(i*k+k)=off+k+i*k from by omega])
  refine⟨x::L,by simp[l1],?_,λz hz=>by rcases List.mem_cons.1 hz with rfl|hz<;>first|exact gx|exact l3 z hz⟩
  simp only[List.map_cons,REs]
  refine⟨?_,l2⟩
  have hcs:∀j,j<k→W.cell? ⟨b,off+j,none⟩=cs[j]? :=by
   unfold World.cells? at h1
   simp only[Nat.zero_le,if_true,Nat.zero_mul] at h1
   intro j hj
   obtain⟨c,c1,c2⟩:=fQ h1 j j (by rw[hk];exact List.getElem?_range hj)
   rw[c2,←c1,cA,cA]
   simp
  have hlen:(E x).length=k:=hE x
  clear ih h l1 l2 l3 h1 h2 hy
  generalize E x=ps at hx hlen
  have key:∀(ps:List D)(cs:List Value)(o:Nat),RFs (aU W) W ps cs→(∀j,j<ps.length→W.cell? ⟨b,o+j,none⟩=cs[j]?)→RPs (aU W) W ps b o:=by
   intro ps
   induction ps with
   |nil=>intro cs o _ _;simp[RPs]
   |cons p ps ih=>
    intro cs o h1 h2
    simp only[RFs] at h1
    obtain⟨c,cs',rfl,h3,h4⟩:=h1
    have h0:=h2 0 sM
    simp only[Nat.add_zero,List.getElem?_cons_zero] at h0
    simp only[RPs]
    exact⟨⟨xN h0,c,h0,h3⟩,ih cs' (o+1) h4 (λj hj=>by have:=h2 (j+1) (by simpa using hj);rw[show o+1+j=o+(j+1) from by omega,this];simp)⟩
  exact key ps cs off hx (λj hj=>hcs j oM)
theorem pp{T e:TypeId}{α:Type}{E:α→List D}{G:α→Prop}{k:Nat}(hT:P.underlying T=some (.slice e))(hk:P.cellsOf e=k)(hk0:0<k)(hE:∀x,(E x).length=k){fuel:Nat}(he:Reads enc P W spare held fuel e E G):
  Reads enc P W spare held (fuel+1) T (λL:List α=> [.sl (L.map E)]) (λL=>(∀x∈L,G x)∧L.length≤maxLen):=λcs y h=>by
 rcases cs with _|⟨v,_|⟨v2,r⟩⟩
 ·simp[DataW.trod,hT] at h
 ·cases v<;>simp only[DataW.trod,hT,reduceCtorEq] at h
  rename_i a len cap
  cases a with
  |none=>
   rcases len with _|len<;>rcases cap with _|cap<;>simp only[reduceCtorEq] at h
   exact⟨[],by simp only[RFs,RD];exact⟨_,[],rfl, .inl ⟨rfl,none,0,rfl,λ_=>rfl⟩,rfl⟩,sM⟩
  |some a=>
   have h':(if 0≤a.block∧len≤cap∧cap≤maxLen then
    ((List.range len).mapM λi=>(W.cells? 0 (a.add (i*P.cellsOf e)) (P.cellsOf e)).bind (DataW.trod enc P W 0 spare held fuel e)).bind λelems=>
     (if spare a.block then(List.range (cap - len)).mapM λj=>(W.cells? 0 (a.add ((len+j)*P.cellsOf e)) (P.cellsOf e)).bind (DataW.trod enc P W 0 spare held fuel e) else some []).map λrest=>
      (DataW.slice (elems.map (·.1)) (rest.map (·.1)),MemPlace.row a ((elems.length+rest.length)*P.cellsOf e)++(elems++rest).flatMap (·.2)) else none)=some y:=by simpa[DataW.trod,hT] using h
   clear h
   split at h'
   ·rename_i hc
    obtain⟨elems,h1,h2⟩:=Option.bind_eq_some_iff.1 h'
    have hm:=λi hi=>fQ h1 i i (List.getElem?_range (n:=len) hi)
    by_cases hl:len=0
    ·subst hl
     exact⟨[],by simp only[RFs,RD];exact⟨_,[],rfl, .inl ⟨rfl,some a,cap,rfl,λh=>by cases h⟩,rfl⟩,sM,sM⟩
    ·have hs:a.spot=none:=by
      obtain⟨b,h3,_⟩:=hm 0 oM
      obtain⟨cs,h4,_⟩:=Option.bind_eq_some_iff.1 h3
      unfold World.cells? at h4
      simp only[Nat.zero_le,if_true] at h4
      obtain⟨c,c1,_⟩:=fQ h4 0 0 (by rw[hk];exact List.getElem?_range hk0)
      have:=World.cell?_spot c1
      simpa[Addr.add] using this
     obtain⟨b,off,sp⟩:=a
     simp only at hs
     subst hs
     obtain⟨L,l1,l2,l3⟩:=pq hk hE he len (λi hi=>by obtain⟨z,h3,_⟩:=hm i hi;exact⟨z,h3⟩)
     refine⟨L,?_,l3,oM⟩
     simp only[RFs,RD]
     refine⟨_,[],rfl, .inr ⟨b,off,k,cap,by rw[List.length_map,l1],by rw[List.length_map,l1];exact hc.2.1,λx hx=>?_,l2⟩,rfl⟩
     obtain⟨z,_,rfl⟩:=List.mem_map.1 hx
     exact hE z
   ·cases h'
 ·simp[DataW.trod,hT] at h
theorem ao{φ w}{cs:List Value}{off n m:Nat}{E F:List D}(h:RFs φ w E ((cs.drop off).take n))(hm:m=off+n)(k:RFs φ w F (cs.drop m)):RFs φ w (E++F) (cs.drop off):=by
 subst hm
 have:=rG h k
 rwa [←List.drop_drop,List.take_append_drop] at this
theorem cx{φ w}{cs:List Value}{off:Nat}(h:cs.length=off):RFs φ w [] (cs.drop off):=by
 rw[List.drop_of_length_le oM]
 rfl
theorem bn{T:TypeId}{fs:Array Field}{α:Type}{E:α→List D}{G:α→Prop}{fuel:Nat}{n:Nat}(hT:P.underlying T=some (.struct fs))(hn:P.cellsOf T=n)
  (h:∀cs:List Value,cs.length=n→(∀(i:Nat) f,fs[i]? =some f→∃y,DataW.trod enc P W 0 spare held fuel f.type ((cs.drop f.offset).take (P.cellsOf f.type))=some y)→∃x,RFs (aU W) W (E x) cs∧G x):
  Reads enc P W spare held (fuel+1) T E G:=λcs y hy=>by
 simp only[DataW.trod,hT] at hy
 split at hy
 ·rename_i hl
  obtain⟨xs,h1,_⟩:=Option.map_eq_some_iff.1 hy
  refine h cs oM (λi f hf=>?_)
  obtain⟨b,h2,_⟩:=fQ h1 i f (by simpa using hf)
  exact⟨b,h2⟩
 ·cases hy
theorem nj{T:TypeId}{v:Value}{d:DataW H}{ps:List MemPlace}{α:Type}{E:α→List D}{G:α→Prop}(hr:∀fuel,Reads enc P W spare held fuel T E G)(h:DataW.Trod enc P W 0 spare held T v d ps):∃x,RFs (aU W) W (E x) v.cells.toList∧G x:=by
 obtain⟨fuel,h⟩:=h
 exact hr fuel _ _ h
theorem zh{φ w}{x:D}{v:Value}(h:RFs φ w [x] v.cells.toList)(hv:v.oneCell'=true):RD φ w x v:=by
 rw[nC hv] at h
 simp only[RFs] at h
 obtain⟨c,cs,e,h1,rfl⟩:=h
 simp only[List.cons.injEq,and_true] at e
 subst e
 exact h1
theorem zi{φ w}{xs:List D}{cs:Array Value}(h:RFs φ w xs (Value.agg cs).cells.toList):RD φ w (.ag xs) (.agg cs):=by
 simp only[RD]
 exact⟨cs.toList,rfl,h⟩
theorem aV{T e:TypeId}{α:Type}{E:α→List D}{G:α→Prop}{k:Nat}(hT:P.underlying T=some (.slice e))(hk:P.cellsOf e=k)(hk0:0<k)(hE:∀x,(E x).length=k):∀{fuel:Nat},(∀f,f<fuel→Reads enc P W spare held f e E G)→
  Reads enc P W spare held fuel T (λL:List α=> [.sl (L.map E)]) (λL=>(∀x∈L,G x)∧L.length≤maxLen)
 |0,_=>Reads.zero
 |f+1,he=>pp hT hk hk0 hE (he f (Nat.lt_succ_self f))
theorem wC{T:TypeId}{k:IntKind}{base:Nat}{v:Value}(hT:P.underlying T=some (.int k))(h:Value.okWide P W .any base T v):v.oneCell'=true:=by
 cases v<;>simp_all [Value.okWide,Cell.okWide,Cell.ok,Value.oneCell']
theorem rj{T:TypeId}{fs:Array Field}{base:Nat}{v:Value}(hT:P.underlying T=some (.struct fs))(h:Value.okWide P W .any base T v):∃cs,v= .agg cs:=by
 simp only[Value.okWide,hT] at h
 obtain⟨cs,h,_⟩:=h
 exact⟨cs,h⟩
theorem iE{t:TypeId}{ts:List TypeId}{vs:List Value}{ds:List (DataW H)}{ps:List MemPlace}(h:DataW.TrodAll enc P W 0 spare held (t::ts) vs ds ps):∃v vs' d ds' p q,vs=v::vs'∧ds=d::ds'∧DataW.Trod enc P W 0 spare held t v d p∧DataW.TrodAll enc P W 0 spare held ts vs' ds' q:=by
 cases vs with
 |nil=>cases ds<;>exact h.elim
 |cons v vs=>
  cases ds with
  |nil=>exact h.elim
  |cons d ds=>
   obtain⟨p,q,h1,h2,_⟩:=h
   exact⟨v,vs,d,ds,p,q,rfl,rfl,h1,h2⟩
theorem nQ{vs:List Value}{ds:List (DataW H)}{ps:List MemPlace}(h:DataW.TrodAll enc P W 0 spare held [] vs ds ps):vs=[]:=by
 cases vs with
 |nil=>rfl
 |cons v vs=>cases ds<;>exact h.elim
end
theorem qj{φ w}{α:Type}(f:α→Value):∀l:List α,RFs φ w (l.map λx=>D.v (f x)) (l.map f)
 |[]=>by simp[RFs]
 |x::l=>by
  simp only[List.map_cons,RFs]
  exact⟨f x,l.map f,rfl,by simp[RD],qj f l⟩
theorem qC{P:Program}{w:World}{name:String}{g n f:Nat}{t e:TypeId}{k:IntKind}{cs:Array Value}{sp:Nat→Bool}{tab:List Int}{p:List MemPlace}(hu:P.underlying t=some (.array n e))(he:P.underlying e=some (.int k))(hce:P.cellsOf e=1)(hct:P.cellsOf t=n)
  (hg:P.globalNamed name=some g)(hv:w.var? P name=some cs)(hd:DataW.trod (λ_=>()) P w 0 sp false f t cs.toList=some (.agg (tab.map λn=> .lit (.int k n)),p)):RPs (aU w) w (tab.map (D.i k)) g 0:=by
 obtain⟨xs,m,rfl,hx,hlen,hn,hel⟩:=DataW.trod_array hu hd
 simp only[Prod.mk.injEq,DataW.agg.injEq] at hx
 have htl:tab.length=n:=by
  have:=congrArg List.length hx.1
  simp only[List.length_map] at this
  omega
 rw[hct] at hlen
 have hcell:∀i v,(tab.map (Value.int k))[i]? =some v→cs[i]? =some v:=λi v hi=>by
  rw[List.getElem?_map,Option.map_eq_some_iff] at hi
  obtain⟨z,hz,rfl⟩:=hi
  have hin:i<n:=by rw[←htl];exact(giS.1 hz).1
  have h1:=hel i hin
  have hxi:i<xs.length:=oM
  rw[geG hxi] at h1
  obtain⟨n',e1,e2,_⟩:=DataW.trod_int he h1
  rw[hce,Nat.mul_one] at e1
  have h2:(tab.map λn=>(DataW.lit (.int k n):DataW Unit))[i]? =some (xs[i]).1:=by rw[hx.1,List.getElem?_map,geG hxi];rfl
  rw[List.getElem?_map,hz,e2] at h2
  simp only[Option.map_some,am,DataW.lit.injEq,Lit.int.injEq,true_and] at h2
  subst h2
  have h3:cs.toList[i]? =some (.int k z):=by
   have h4:(cs.toList.drop i).take 1=[Value.int k z]:=e1
   have h5:((cs.toList.drop i).take 1)[0]? =some (Value.int k z):=by rw[h4];rfl
   rw[List.getElem?_take,if_pos oM,List.getElem?_drop] at h5
   simpa using h5
  simpa using h3
 have hall:aU w g=cs.size:=by
  have h:=hv
  simp only[World.var?,hg,bnS] at h
  unfold aU
  split at h
  ·rename_i c _ _ hh
   simp only[am] at h
   subst h
   rw[hh]
  ·cases h
 have hm:tab.map (D.i k)=tab.map λx=>D.v (Value.int k x):=rfl
 rw[hm]
 refine dY (vs:=tab.map (Value.int k)) (qj _ _) (λj v hj=>?_)
 have h1:=hcell j v hj
 rw[Nat.zero_add,World.var?_cell hg hv,hall]
 exact⟨(Array.getElem?_eq_some_iff.1 h1).1,h1⟩
theorem oc{H:Type}{enc:TypeId×Value→H}{C:Checked}{os:Os}{f:FuncId}{fn:Func}{s:ChangeSpec}{conds:List PathCond}{tb:TypeId}(n:Nat)(X:World→Prop)(hX:∀w w':World,w.heap=w'.heap→X w→X w')(own:ownKnob C.prog.godebug=none)(started:os.Started)(noInit:C.prog.inits.idxOf? f=none)(hfn:C.prog.funcs[f]? =some fn)
  (witness:∃(w:World)(tape:Tape)(i:Input),w.os=os∧(w.forCall tape i).Shaped C.prog∧i.vars=[]∧Input.okWide C.prog (w.forCall tape i) .any w.heap.size f i∧
   ((s.pre enc C.prog fn conds false (w.forCall tape i).memory i.args∧X (w.forCall tape i).memory)∧sizedMet enc C.prog fn (OpenSpec.ofChange s) false (w.forCall tape i).memory i.args)∧({}:Assume).holds C.prog (lone (Frame.enter C.prog f i.args .normal) [] (w.forCall tape i)))
  (hvars:s.vars=[])(hn:fn.params.size=n)(hres:fn.resultTypes= #[tb])(hb:C.prog.underlying tb=some .bool)
  (hspec:∀ds:List (DataW H),ds.length=n→s.fn H ds={ results:=[.lit (.bool true)],args:=ds })(hl:laidOutB C.prog=true)
  (htypes:(fn.params.toList.all λt=>C.prog.readableRec t&&decide (t<C.prog.types.size))=true)
  (hwalk:∀(W:World)(base:Nat)(args:Array Value)(ds:List (DataW H))(p:List MemPlace),X W→(∀(j:Nat) t v,fn.params[j]? =some t→args[j]? =some v→Value.okWide C.prog W .any base t v)→
   DataW.TrodAll enc C.prog W 0 (λ_=>true) true fn.params.toList args.toList ds p→(DataW.weightsEach C.prog fn.params.toList ds).all (·≤reachBytes)=true→
   Calls C.prog f args W λe W'=>e= .returned (.bool true)∧Below W.heap.size W W'):
  ReturnsInHanded {} C os f .any (λw args=>(s.pre enc C.prog fn conds false w args∧X w)∧sizedMet enc C.prog fn (OpenSpec.ofChange s) false w args) (s.post enc C.prog fn false true false false):=by
 refine returnsInHanded_of_change_and (X:=λw _=>X w) (λw w' _ hh h=>hX w w' hh h) own started noInit hfn witness ?_
 intro W base args ds gs before hval hW _ hsz hXW _
 have hW':=hW
 obtain⟨p,q,hA,hV,rfl,_,_⟩:=hW
 rw[hvars] at hV
 obtain⟨rfl,rfl⟩:=trodVars_none hV
 have hvt:s.plain.varTypes C.prog=[]:=by simp[DataSpec.varTypes,ChangeSpec.plain,hvars]
 rw[hvt] at hsz
 simp only[List.append_nil] at hsz hW'
 have hlt:∀y∈p,y.block<W.heap.size:=λy hy=>by simpa using hW'.lt y (by simp[hy])
 have hdl:ds.length=n:=by rw[(kQ hA).1];simpa using hn
 refine(hwalk W base args ds p hXW hval hA hsz).mono λe W' ⟨he,hbel⟩=>?_
 subst he
 refine⟨_,rfl,ds,[],p,[],p,[],?_,?_,?_,?_,hbel.frame _,λh=>by cases h⟩
 ·simpa using hW'
 ·simp only[List.append_nil,hspec ds hdl,hres]
  exact trodAll_mk1 (shut_bool hb _)
 ·simp only[List.append_nil,hspec ds hdl]
  exact iR hl hbel htypes hA hlt
 ·simp only[List.append_nil,hspec ds hdl,hvars]
  rfl
section
variable{H:Type}{enc:TypeId×Value→H}{P:Program}{W:World}{spare:Nat→Bool}{held:Bool}
end
section
variable{H:Type}{enc:TypeId×Value→H}{P:Program}{W:World}{spare:Nat→Bool}{held:Bool}
end
theorem yr{α:Type}(cs:Array Value)(f g:α→Value):∀(tab:List α)(i0:Nat),(∀k p,tab[k]? =some p→cs[2*(i0+k)]? =some (f p)∧cs[2*(i0+k)+1]? =some (g p))→∀j v,(tab.flatMap λp=> [f p,g p])[j]? =some v→cs[2*i0+j]? =some v
 |[],i0,h,j,v,hv=>by simp at hv
 |p::r,i0,h,0,v,hv=>by
  have:=(h 0 p rfl).1
  rw[List.flatMap_cons] at hv
  have e:f p=v:=inS hv
  rw[←e]
  exact this
 |p::r,i0,h,1,v,hv=>by
  have:=(h 0 p rfl).2
  rw[List.flatMap_cons] at hv
  have e:g p=v:=inS hv
  rw[←e]
  exact this
 |p::r,i0,h,j+2,v,hv=>by
  rw[List.flatMap_cons] at hv
  have:=yr cs f g r (i0+1) (λk q hq=>by
   have:=h (k+1) q (by simpa using hq)
   rw[show i0+1+k=i0+(k+1) by omega]
   exact this) j v hv
  rw[show 2*i0+(j+2)=2*(i0+1)+j by omega]
  exact this
theorem sP{φ w}{α:Type}(f g:α→ByteArray):∀l:List α,RFs φ w (l.flatMap λx=> [D.s (f x),D.s (g x)]) (l.flatMap λx=> [Value.string (f x),Value.string (g x)])
 |[]=>by simp[RFs]
 |x::l=>by
  simp only[List.flatMap_cons,List.cons_append,List.nil_append,RFs]
  exact⟨_,_,rfl,by simp[RD],_,_,rfl,by simp[RD],sP f g l⟩
theorem mO{P:Program}{w:World}{name:String}{g n f:Nat}{t e ts:TypeId}{f0 f1:Field}{cs:Array Value}{sp:Nat→Bool}{tab:List (ByteArray×ByteArray)}{p:List MemPlace}(hu:P.underlying t=some (.array n e))(he:P.underlying e=some (.struct #[f0,f1]))(h0:f0.type=ts)(h1:f1.type=ts)(o0:f0.offset=0)(o1:f1.offset=1)(hs:P.underlying ts=some .string)(hcs:P.cellsOf ts=1)(hce:P.cellsOf e=2)(hct:P.cellsOf t=2*n)
  (hg:P.globalNamed name=some g)(hv:w.var? P name=some cs)(hd:DataW.trod (λ_=>()) P w 0 sp false f t cs.toList=some (.agg (tab.map λp=> .agg [.lit (.string p.1.data.toList), .lit (.string p.2.data.toList)]),p)):RPs (aU w) w (tab.flatMap λp=> [D.s p.1,D.s p.2]) g 0:=by
 obtain⟨xs,m,rfl,hx,hlen,hn,hel⟩:=DataW.trod_array hu hd
 simp only[Prod.mk.injEq,DataW.agg.injEq] at hx
 have htl:tab.length=n:=by
  have:=congrArg List.length hx.1
  simp only[List.length_map] at this
  omega
 rw[hct] at hlen
 have one:∀(i:Nat)(s:ByteArray)(k:Nat),((cs.toList.drop (i*2)).take 2|>.drop k).take 1=[Value.string s]→k<2→cs[2*i+k]? =some (.string s):=λi s k h hk=>by
  have h5:(((cs.toList.drop (i*2)).take 2|>.drop k).take 1)[0]? =some (Value.string s):=by rw[h];rfl
  rw[List.getElem?_take,if_pos oM,List.getElem?_drop,List.getElem?_take,if_pos oM,List.getElem?_drop] at h5
  rw[show 2*i+k=i*2+(k+0) by omega,←Array.getElem?_toList]
  exact h5
 have hcell:=yr cs (λp:ByteArray×ByteArray=>Value.string p.1) (λp=>Value.string p.2) tab 0 (λi q hq=>by
  have hin:i<n:=by rw[←htl];exact(giS.1 hq).1
  have h2:=hel i hin
  have hxi:i<xs.length:=oM
  rw[geG hxi] at h2
  obtain⟨y0,y1,n',e1,_,e3,e4⟩:=trod_struct2 he h2
  rw[hce,o0,h0,hcs] at e3
  rw[hce,o1,h1,hcs] at e4
  obtain⟨s0,a1,a2,_⟩:=DataW.trod_string hs e3
  obtain⟨s1,b1,b2,_⟩:=DataW.trod_string hs e4
  have h3:(tab.map λp=>(DataW.agg [.lit (.string p.1.data.toList), .lit (.string p.2.data.toList)]:DataW Unit))[i]? =some (xs[i]).1:=by rw[hx.1,List.getElem?_map,geG hxi];rfl
  rw[List.getElem?_map,hq,e1,a2,b2] at h3
  simp only[Option.map_some,am,DataW.agg.injEq,List.cons.injEq,DataW.lit.injEq,Lit.string.injEq,and_true,Array.toList_inj] at h3
  have c0:q.1=s0:=ByteArray.ext h3.1
  have c1:q.2=s1:=ByteArray.ext h3.2
  rw[c0,c1,Nat.zero_add]
  exact⟨one i s0 0 a1 oM,one i s1 1 b1 oM⟩)
 have hall:aU w g=cs.size:=by
  have h:=hv
  simp only[World.var?,hg,bnS] at h
  unfold aU
  split at h
  ·rename_i c _ _ hh
   simp only[am] at h
   subst h
   rw[hh]
  ·cases h
 refine dY (vs:=tab.flatMap λp=> [Value.string p.1,Value.string p.2]) (sP _ _ _) (λj v hj=>?_)
 have h1:=hcell j v hj
 rw[Nat.zero_add,World.var?_cell hg hv,hall]
 rw[Nat.mul_zero,Nat.zero_add] at h1
 exact⟨(Array.getElem?_eq_some_iff.1 h1).1,h1⟩
end Go.Sk
