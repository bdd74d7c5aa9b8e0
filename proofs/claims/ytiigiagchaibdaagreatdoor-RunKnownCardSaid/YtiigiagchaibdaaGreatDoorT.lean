/-
  The library's sort and its compaction of integers, asz contracts over a slice of our own.
-/
import Derived.Sort.OwnSortedInts
import Derived.Shelf.Slices.CompactI
import Derived.ProofKit
import Derived.SizedLaws
import Derived.LaidMore
import Derived.OpenShut
import Derived.Stop.Joined
import Derived.ChangeArms
import Derived.ChangeSame
import Derived.Test.YtiigiagchaibdaaGreatDoorSb
set_option linter.unusedVariables false
set_option linter.unusedSimpArgs false
set_option linter.unusedSectionVars false
set_option linter.unnecessarySimpa false
namespace Go.Sk
open Go.RowKit (Below)
open Go.Sort (Holds putRow grow)
open Go.ChangeShapes Go.WideShapes Go.ChangeAt Go.RowKit
theorem gR{H:Type}{enc:TypeId×Value→H}{P:Program}{w:World}{base:Nat}{spare:Nat→Bool}{held:Bool}:∀{ts:List TypeId}{vs:List Value}{ds:List (DataW H)}{ps:List MemPlace},DataW.TrodAll enc P w base spare held ts vs ds ps→ds.length=ts.length∧vs.length=ts.length
 |[],[],[],_,_=>⟨rfl,rfl⟩
 |t::ts,v::vs,d::ds,ps,h=>by
  obtain⟨p,q,_,h2,_⟩:=h
  have:=gR h2
  simp[this.1,this.2]
 |[],[],_::_,_,h=>h.elim
 |[],_::_,_,_,h=>h.elim
 |_::_,[],_,_,h=>h.elim
 |_::_,_::_,[],_,h=>h.elim
theorem eP{H:Type}{enc:TypeId×Value→H}{P:Program}(hl:laidOutB P=true){W W':World}(hb:Below W.heap.size W W'):∀{ts:List TypeId}{vs:List Value}{ds:List (DataW H)}{ps:List MemPlace},
  (ts.all λt=>P.readableRec t&&decide (t<P.types.size))=true→DataW.TrodAll enc P W 0 (λ_=>true) true ts vs ds ps→(∀x∈ps,x.block<W.heap.size)→DataW.TrodAll enc P W' 0 (λb=>decide (b<W.heap.size)) true ts vs ds ps
 |[],[],[],ps,_,h,_=>h
 |t::ts,v::vs,d::ds,ps,ht,h,hlt=>by
  obtain⟨p,q,h1,h2,rfl⟩:=h
  simp only[List.all_cons,Bool.and_eq_true,decide_eq_true_eq] at ht
  exact⟨p,q,Below.trod hl ht.1.1 ht.1.2 h1 hb (λx hx=>hlt x (by simp[hx])),eP hl hb ht.2 h2 (λx hx=>hlt x (by simp[hx])),rfl⟩
 |[],[],_::_,_,_,h,_=>h.elim
 |[],_::_,_,_,_,h,_=>h.elim
 |_::_,[],_,_,_,h,_=>h.elim
 |_::_,_::_,[],_,_,h,_=>h.elim
def aA(W:World)(b:Nat):Nat:=match W.heap[b]? with|some (.cells c _ _)=>c.size|_=>0
theorem lu(W:World)(hg:Gl (aA W) W):SR [] (aA W) [] W where
 len:=rfl
 obj i o c h:=by simp at h
 lt b hb:=by simp[aA,hb]
 inj i j o o' c c' b h:=by simp at h
 gl:=hg
 nb b h:=by obtain⟨i,c,h,_⟩:=h;simp at h
theorem mg{P:Program}{f:FuncId}{ds:List D}{W:World}{vs:List Value}(hg:Gl (aA W) W)(h:Pu P f ds (.b true))(ha:RAs [] (aA W) W (ds.map .d) vs):Calls P f ⟨vs⟩ W λe W'=>e= .returned (.bool true)∧Below W.heap.size W W':=by
 refine(h.2 [] (aA W) W vs (lu W hg) ha).mono ?_
 rintro en w' ⟨v,r,st',m',φ',rfl,⟨rfl,rfl⟩,hev,_,hra⟩
 simp only[RA,RD] at hra
 subst hra
 exact⟨rfl,hev.os,hev.tape,hev.output,hev.size,λb hb=>(hev.keep b hb (by rintro⟨i,c,h,_⟩;simp at h)).1⟩
section
variable{H:Type}{enc:TypeId×Value→H}{P:Program}{W:World}{spare:Nat→Bool}{held:Bool}
theorem vr{W:World}{p q:List MemPlace}(h:W.noneFrozen p)(hs:∀x∈q,x∈p):W.noneFrozen q:=λb off hm=>h b off (hs _ hm)
def ry(enc:TypeId×Value→H)(P:Program)(W:World)(spare:Nat→Bool)(held:Bool)(ts:List TypeId)(vs:List Value)(ds:List (DataW H))(ps:List MemPlace):Prop:=DataW.TrodAll enc P W 0 spare held ts vs ds ps∧W.noneFrozen ps
theorem kg{vs:List Value}{ds:List (DataW H)}{ps:List MemPlace}(h:ry enc P W spare held [] vs ds ps):vs=[]:=by
 replace h:=h.1
 cases vs with
 |nil=>rfl
 |cons v vs=>cases ds<;>exact h.elim
end
theorem mm{φ w}{α:Type}(f:α→Value):∀l:List α,RFs φ w (l.map λx=>D.v (f x)) (l.map f)
 |[]=>by simp[RFs]
 |x::l=>by
  simp only[List.map_cons,RFs]
  exact⟨f x,l.map f,rfl,by simp[RD],mm f l⟩
theorem mI{P:Program}{w:World}{name:String}{g n f:Nat}{t e:TypeId}{k:IntKind}{cs:Array Value}{sp:Nat→Bool}{tab:List Int}{p:List MemPlace}(hu:P.underlying t=some (.array n e))(he:P.underlying e=some (.int k))(hce:P.cellsOf e=1)(hct:P.cellsOf t=n)
  (hg:P.globalNamed name=some g)(hv:w.var? P name=some cs)(hd:DataW.trod (λ_=>()) P w 0 sp false f t cs.toList=some (.agg (tab.map λn=> .lit (.int k n)),p))(hz:0<cs.size→∀j,w.frozen? ⟨g,j,none⟩=false):RPs (aA w) w (tab.map (D.i k)) g 0:=by
 obtain⟨xs,m,rfl,hx,hlen,hn,hel⟩:=DataW.trod_array hu hd
 simp only[Prod.mk.injEq,DataW.agg.injEq] at hx
 have htl:tab.length=n:=by
  have:=congrArg List.length hx.1
  simp only[List.length_map] at this
  omega
 rw[hct] at hlen
 have hcell:∀i v,(tab.map (Value.int k))[i]? =some v→cs[i]? =some v:=λi v hi=>by
  rw[List.getElem?_map,Option.map_eq_some_iff] at hi
  obtain⟨z,hz,rfl⟩:=hi
  have hin:i<n:=by rw[←htl];exact(giS.1 hz).1
  have h1:=hel i hin
  have hxi:i<xs.length:=oM
  rw[geG hxi] at h1
  obtain⟨n',e1,e2,_⟩:=DataW.trod_int he h1
  rw[hce,Nat.mul_one] at e1
  have h2:(tab.map λn=>(DataW.lit (.int k n):DataW Unit))[i]? =some (xs[i]).1:=by rw[hx.1,List.getElem?_map,geG hxi];rfl
  rw[List.getElem?_map,hz,e2] at h2
  simp only[Option.map_some,aa,DataW.lit.injEq,Lit.int.injEq,true_and] at h2
  subst h2
  have h3:cs.toList[i]? =some (.int k z):=by
   have h4:(cs.toList.drop i).take 1=[Value.int k z]:=e1
   have h5:((cs.toList.drop i).take 1)[0]? =some (Value.int k z):=by rw[h4];rfl
   rw[List.getElem?_take,if_pos oM,List.getElem?_drop] at h5
   simpa using h5
  simpa using h3
 have hall:aA w g=cs.size:=by
  have h:=hv
  simp only[World.var?,hg,bnS] at h
  unfold aA
  split at h
  ·rename_i c _ _ hh
   simp only[aa] at h
   subst h
   rw[hh]
  ·cases h
 have hm:tab.map (D.i k)=tab.map λx=>D.v (Value.int k x):=rfl
 rw[hm]
 refine b9 (vs:=tab.map (Value.int k)) (mm _ _) (λj v hj=>?_)
 have h1:=hcell j v hj
 rw[Nat.zero_add,hall]
 exact⟨(Array.getElem?_eq_some_iff.1 h1).1,nG (by rw[World.var?_cell hg hv];exact h1) (hz (by have:=(Array.getElem?_eq_some_iff.1 h1).1;omega) j)⟩
theorem nZ{W:World}{ps:List MemPlace}{g n:Nat}{R:Nat→Nat→Prop}(h:∀b off,MemPlace.cell b off∈ps→(∃c t,W.heap[b]? =some (.cells c t (0,0)))∧R b off)(hm:∀x∈MemPlace.row ⟨g,0,none⟩ n,x∈ps)(h0:0<n)(j:Nat):W.frozen? ⟨g,j,none⟩=false:=by
 obtain⟨⟨c,t,hc⟩,_⟩:=h g 0 (hm _ (List.mem_map.2 ⟨0,List.mem_range.2 h0,rfl⟩))
 simp[World.frozen?,hc]
theorem kx{H:Type}{enc:TypeId×Value→H}{C:Checked}{os:Os}{f:FuncId}{fn:Func}{s:ChangeSpec}{conds:List PathCond}{tb:TypeId}(n:Nat)(X:World→Prop)(hX:∀w w':World,w.heap=w'.heap→X w→X w')(own:ownKnob C.prog.godebug=none)(started:os.Started)(noInit:C.prog.inits.idxOf? f=none)(hfn:C.prog.funcs[f]? =some fn)
  (witness:∃(w:World)(tape:Tape)(i:Input),w.os=os∧(w.forCall tape i).Shaped C.prog∧i.vars=[]∧Input.okWide C.prog (w.forCall tape i) .any w.heap.size f i∧
   ((s.pre enc C.prog fn conds false (w.forCall tape i).memory i.args∧X (w.forCall tape i).memory)∧sizedMet enc C.prog fn (OpenSpec.ofChange s) false (w.forCall tape i).memory i.args)∧({}:Assume).holds C.prog (lone (Frame.enter C.prog f i.args .normal) [] (w.forCall tape i)))
  (hvars:s.vars=[])(hn:fn.params.size=n)(hres:fn.resultTypes= #[tb])(hb:C.prog.underlying tb=some .bool)
  (hspec:∀ds:List (DataW H),ds.length=n→s.fn H ds={ results:=[.lit (.bool true)],args:=ds })(hl:laidOutB C.prog=true)
  (htypes:(fn.params.toList.all λt=>C.prog.readableRec t&&decide (t<C.prog.types.size))=true)
  (hwalk:∀(W:World)(base:Nat)(args:Array Value)(ds:List (DataW H))(p:List MemPlace),X W→(∀(j:Nat) t v,fn.params[j]? =some t→args[j]? =some v→Value.okWide C.prog W .any base t v)→
   ry enc C.prog W (λ_=>true) true fn.params.toList args.toList ds p→(DataW.weightsEach C.prog fn.params.toList ds).all (·≤reachBytes)=true→
   Calls C.prog f args W λe W'=>e= .returned (.bool true)∧Below W.heap.size W W'):
  ReturnsInHanded {} C os f .any (λw args=>(s.pre enc C.prog fn conds false w args∧X w)∧sizedMet enc C.prog fn (OpenSpec.ofChange s) false w args) (s.post enc C.prog fn false true false false):=by
 refine returnsInHanded_of_change_and (X:=λw _=>X w) (λw w' _ hh h=>hX w w' hh h) own started noInit hfn witness ?_
 intro W base args ds gs before hval hW _ hsz hXW _
 have hW':=hW
 obtain⟨p,q,hA,hV,rfl,hNF,_⟩:=hW
 rw[hvars] at hV
 obtain⟨rfl,rfl⟩:=trodVars_none hV
 have hvt:s.plain.varTypes C.prog=[]:=by simp[DataSpec.varTypes,ChangeSpec.plain,hvars]
 rw[hvt] at hsz
 simp only[List.append_nil] at hsz hW'
 have hlt:∀y∈p,y.block<W.heap.size:=λy hy=>by simpa using hW'.lt y (by simp[hy])
 have hdl:ds.length=n:=by rw[(gR hA).1];simpa using hn
 refine(hwalk W base args ds p hXW hval ⟨hA,vr hNF λx hx=>List.mem_append_left _ hx⟩ hsz).mono λe W' ⟨he,hbel⟩=>?_
 subst he
 refine⟨_,rfl,ds,[],p,[],p,[],?_,?_,?_,?_,hbel.frame _,λh=>by cases h⟩
 ·simpa using hW'
 ·simp only[List.append_nil,hspec ds hdl,hres]
  exact trodAll_mk1 (shut_bool hb _)
 ·simp only[List.append_nil,hspec ds hdl]
  exact eP hl hbel htypes hA hlt
 ·simp only[List.append_nil,hspec ds hdl,hvars]
  rfl
theorem uy{α:Type}(cs:Array Value)(f g:α→Value):∀(tab:List α)(i0:Nat),(∀k p,tab[k]? =some p→cs[2*(i0+k)]? =some (f p)∧cs[2*(i0+k)+1]? =some (g p))→∀j v,(tab.flatMap λp=> [f p,g p])[j]? =some v→cs[2*i0+j]? =some v
 |[],i0,h,j,v,hv=>by simp at hv
 |p::r,i0,h,0,v,hv=>by
  have:=(h 0 p rfl).1
  rw[List.flatMap_cons] at hv
  have e:f p=v:=inS hv
  rw[←e]
  exact this
 |p::r,i0,h,1,v,hv=>by
  have:=(h 0 p rfl).2
  rw[List.flatMap_cons] at hv
  have e:g p=v:=inS hv
  rw[←e]
  exact this
 |p::r,i0,h,j+2,v,hv=>by
  rw[List.flatMap_cons] at hv
  have:=uy cs f g r (i0+1) (λk q hq=>by
   have:=h (k+1) q (by simpa using hq)
   rw[show i0+1+k=i0+(k+1) by omega]
   exact this) j v hv
  rw[show 2*i0+(j+2)=2*(i0+1)+j by omega]
  exact this
theorem oA{φ w}{α:Type}(f g:α→ByteArray):∀l:List α,RFs φ w (l.flatMap λx=> [D.s (f x),D.s (g x)]) (l.flatMap λx=> [Value.string (f x),Value.string (g x)])
 |[]=>by simp[RFs]
 |x::l=>by
  simp only[List.flatMap_cons,List.cons_append,List.nil_append,RFs]
  exact⟨_,_,rfl,by simp[RD],_,_,rfl,by simp[RD],oA f g l⟩
theorem jn{P:Program}{w:World}{name:String}{g n f:Nat}{t e ts:TypeId}{f0 f1:Field}{cs:Array Value}{sp:Nat→Bool}{tab:List (ByteArray×ByteArray)}{p:List MemPlace}(hu:P.underlying t=some (.array n e))(he:P.underlying e=some (.struct #[f0,f1]))(h0:f0.type=ts)(h1:f1.type=ts)(o0:f0.offset=0)(o1:f1.offset=1)(hs:P.underlying ts=some .string)(hcs:P.cellsOf ts=1)(hce:P.cellsOf e=2)(hct:P.cellsOf t=2*n)
  (hg:P.globalNamed name=some g)(hv:w.var? P name=some cs)(hd:DataW.trod (λ_=>()) P w 0 sp false f t cs.toList=some (.agg (tab.map λp=> .agg [.lit (.string p.1.data.toList), .lit (.string p.2.data.toList)]),p))(hz:0<cs.size→∀j,w.frozen? ⟨g,j,none⟩=false):RPs (aA w) w (tab.flatMap λp=> [D.s p.1,D.s p.2]) g 0:=by
 obtain⟨xs,m,rfl,hx,hlen,hn,hel⟩:=DataW.trod_array hu hd
 simp only[Prod.mk.injEq,DataW.agg.injEq] at hx
 have htl:tab.length=n:=by
  have:=congrArg List.length hx.1
  simp only[List.length_map] at this
  omega
 rw[hct] at hlen
 have one:∀(i:Nat)(s:ByteArray)(k:Nat),((cs.toList.drop (i*2)).take 2|>.drop k).take 1=[Value.string s]→k<2→cs[2*i+k]? =some (.string s):=λi s k h hk=>by
  have h5:(((cs.toList.drop (i*2)).take 2|>.drop k).take 1)[0]? =some (Value.string s):=by rw[h];rfl
  rw[List.getElem?_take,if_pos oM,List.getElem?_drop,List.getElem?_take,if_pos oM,List.getElem?_drop] at h5
  rw[show 2*i+k=i*2+(k+0) by omega,←Array.getElem?_toList]
  exact h5
 have hcell:=uy cs (λp:ByteArray×ByteArray=>Value.string p.1) (λp=>Value.string p.2) tab 0 (λi q hq=>by
  have hin:i<n:=by rw[←htl];exact(giS.1 hq).1
  have h2:=hel i hin
  have hxi:i<xs.length:=oM
  rw[geG hxi] at h2
  obtain⟨y0,y1,n',e1,_,e3,e4⟩:=trod_struct2 he h2
  rw[hce,o0,h0,hcs] at e3
  rw[hce,o1,h1,hcs] at e4
  obtain⟨s0,a1,a2,_⟩:=DataW.trod_string hs e3
  obtain⟨s1,b1,b2,_⟩:=DataW.trod_string hs e4
  have h3:(tab.map λp=>(DataW.agg [.lit (.string p.1.data.toList), .lit (.string p.2.data.toList)]:DataW Unit))[i]? =some (xs[i]).1:=by rw[hx.1,List.getElem?_map,geG hxi];rfl
  rw[List.getElem?_map,hq,e1,a2,b2] at h3
  simp only[Option.map_some,aa,DataW.agg.injEq,List.cons.injEq,DataW.lit.injEq,Lit.string.injEq,and_true,Array.toList_inj] at h3
  have c0:q.1=s0:=ByteArray.ext h3.1
  have c1:q.2=s1:=ByteArray.ext h3.2
  rw[c0,c1,Nat.zero_add]
  exact⟨one i s0 0 a1 oM,one i s1 1 b1 oM⟩)
 have hall:aA w g=cs.size:=by
  have h:=hv
  simp only[World.var?,hg,bnS] at h
  unfold aA
  split at h
  ·rename_i c _ _ hh
   simp only[aa] at h
   subst h
   rw[hh]
  ·cases h
 refine b9 (vs:=tab.flatMap λp=> [Value.string p.1,Value.string p.2]) (oA _ _ _) (λj v hj=>?_)
 have h1:=hcell j v hj
 rw[Nat.zero_add,hall]
 rw[Nat.mul_zero,Nat.zero_add] at h1
 exact⟨(Array.getElem?_eq_some_iff.1 h1).1,nG (by rw[World.var?_cell hg hv];exact h1) (hz (by have:=(Array.getElem?_eq_some_iff.1 h1).1;omega) j)⟩
end Go.Sk
