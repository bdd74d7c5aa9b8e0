/-
  The library's sort and its compaction of integers,asz contracts over a slice of our own.
-/
import Derived.Sort.OwnSortedInts
import Derived.Shelf.Slices.CompactI
import Derived.ProofKit
import Derived.SizedLaws
import Derived.LaidMore
import Derived.OpenShut
import Derived.Stop.Joined
import Derived.ChangeArms
import Derived.ChangeSame
import Derived.Test.YtkbahggepncliaaGreatDoorSc
set_option linter.unusedVariables false
set_option linter.unusedSimpArgs false
set_option linter.unusedSectionVars false
set_option linter.unnecessarySimpa false
namespace Go.Sk
open Go.RowKit (Below)
open Go.Sort (Holds putRow grow)
end Go.Sk
namespace Go.Sk
open Go.RowKit (Below)
open Go.ChangeShapes Go.WideShapes Go.ChangeAt Go.RowKit
theorem trodAll_len {H : Type} {enc : TypeId × Value → H} {P : Program} {w : World} {base : Nat} {spare : Nat → Bool} {held : Bool} : ∀ {ts : List TypeId} {vs : List Value} {ds : List (DataW H)} {ps : List MemPlace},DataW.TrodAll enc P w base spare held ts vs ds ps → ds.length = ts.length ∧ vs.length = ts.length
  | [],[],[],_,_ => ⟨rfl,rfl⟩
  | t :: ts,v :: vs,d :: ds,ps,h => by
    obtain ⟨p,q,_,h2,_⟩:=h
    have:=trodAll_len h2
    simp [this.1,this.2]
  | [],[],_ :: _,_,h => h.elim
  | [],_ :: _,_,_,h => h.elim
  | _ :: _,[],_,_,h => h.elim
  | _ :: _,_ :: _,[],_,h => h.elim
theorem below_trodAll {H : Type} {enc : TypeId × Value → H} {P : Program} (hl : laidOutB P = true) {W W' : World} (hb : Below W.heap.size W W') : ∀ {ts : List TypeId} {vs : List Value} {ds : List (DataW H)} {ps : List MemPlace},
    (ts.all fun t => P.readableRec t && decide (t < P.types.size)) = true → DataW.TrodAll enc P W 0 (fun _ => true) true ts vs ds ps → (∀ x ∈ ps,x.block < W.heap.size) → DataW.TrodAll enc P W' 0 (fun b => decide (b < W.heap.size)) true ts vs ds ps
  | [],[],[],ps,_,h,_ => h
  | t :: ts,v :: vs,d :: ds,ps,ht,h,hlt => by
    obtain ⟨p,q,h1,h2,rfl⟩:=h
    simp only [List.all_cons,Bool.and_eq_true,decide_eq_true_eq] at ht
    exact ⟨p,q,Below.trod hl ht.1.1 ht.1.2 h1 hb (fun x hx => hlt x (by simp [hx])),below_trodAll hl hb ht.2 h2 (fun x hx => hlt x (by simp [hx])),rfl⟩
  | [],[],_ :: _,_,_,h,_ => h.elim
  | [],_ :: _,_,_,_,h,_ => h.elim
  | _ :: _,[],_,_,_,h,_ => h.elim
  | _ :: _,_ :: _,[],_,_,h,_ => h.elim
def allCells (W : World) (b : Nat) : Nat:=match W.heap[b]? with | some (.cells c _ _) => c.size | _ => 0
theorem sr_start (W : World) (hg : Gl (allCells W) W) : SR [] (allCells W) [] W where
  len:=rfl
  obj i o c h:=by simp at h
  lt b hb:=by simp [allCells,hb]
  inj i j o o' c c' b h:=by simp at h
  gl:=hg
  nb b h:=by obtain ⟨i,c,h,_⟩:=h; simp at h
theorem calls_of_pu {P : Program} {f : FuncId} {ds : List D} {W : World} {vs : List Value} (hg : Gl (allCells W) W) (h : Pu P f ds (.b true)) (ha : RAs [] (allCells W) W (ds.map .d) vs) : Calls P f ⟨vs⟩ W fun e W' => e = .returned (.bool true) ∧ Below W.heap.size W W':=by
  refine (h.2 [] (allCells W) W vs (sr_start W hg) ha).mono ?_
  rintro en w' ⟨v,r,st',m',φ',rfl,⟨rfl,rfl⟩,hev,_,hra⟩
  simp only [RA,RD] at hra
  subst hra
  exact ⟨rfl,hev.os,hev.tape,hev.output,hev.size,fun b hb => (hev.keep b hb (by rintro ⟨i,c,h,_⟩; simp at h)).1⟩
end Go.Sk
namespace Go.Sk
open Go.RowKit (Below)
section
variable {H : Type} {enc : TypeId × Value → H} {P : Program} {W : World} {spare : Nat → Bool} {held : Bool}
def Reads (enc : TypeId × Value → H) (P : Program) (W : World) (spare : Nat → Bool) (held : Bool) (fuel : Nat) (T : TypeId) {α : Type} (E : α → List D) (G : α → Prop) : Prop :=
  ∀ cs y,DataW.trod enc P W 0 spare held fuel T cs = some y → ∃ x,RFs (allCells W) W (E x) cs ∧ G x
theorem Reads.zero {T : TypeId} {α : Type} {E : α → List D} {G : α → Prop} : Reads enc P W spare held 0 T E G:=fun cs y h => by simp [DataW.trod] at h
theorem reads_int {T : TypeId} {k : IntKind} (hT : P.underlying T = some (.int k)) : ∀ fuel,Reads enc P W spare held fuel T (fun n : Int => [.i k n]) (fun n => k.min ≤ n ∧ n ≤ k.max)
  | 0 => Reads.zero
  | fuel + 1 => fun cs y h => by
    rcases cs with _ | ⟨v,_ | ⟨v2,r⟩⟩
    · simp [DataW.trod,hT] at h
    · cases v <;> simp only [DataW.trod,hT,reduceCtorEq] at h
      rename_i k' n
      split at h
      · rename_i hc
        obtain ⟨rfl,hw⟩:=hc
        refine ⟨n,by simp [RFs,RD],?_⟩
        simpa [Lit.wf,IntKind.has] using hw
      · cases h
    · simp [DataW.trod,hT] at h
theorem mapM_some {α β : Type} {f : α → Option β} : ∀ {l : List α} {r : List β},l.mapM f = some r → ∀ (i : Nat) (a : α),l[i]? = some a → ∃ b,f a = some b ∧ r[i]? = some b
  | [],r,h,i,a,ha => by simp at ha
  | x :: l,r,h,i,a,ha => by
    rw [List.mapM_cons] at h
    cases hx : f x with
    | none => simp [hx] at h
    | some b =>
      cases hl : l.mapM f with
      | none => simp [hx,hl] at h
      | some bs =>
        simp only [hx,hl,Option.bind_eq_bind,Option.bind_some,Option.pure_def,Option.some.injEq] at h
        subst h
        cases i with
        | zero => simp only [List.getElem?_cons_zero,Option.some.injEq] at ha; subst ha; exact ⟨b,hx,rfl⟩
        | succ i => obtain ⟨c,h1,h2⟩:=mapM_some hl i a (by simpa using ha); exact ⟨c,h1,by simpa using h2⟩
theorem rfs_app {φ w} : ∀ {xs : List D} {vs : List Value} {ys : List D} {us : List Value},RFs φ w xs vs → RFs φ w ys us → RFs φ w (xs ++ ys) (vs ++ us)
  | [],vs,ys,us,h,k => by simp only [RFs] at h; subst h; exact k
  | x :: xs,vs,ys,us,h,k => by
    simp only [RFs] at h
    obtain ⟨c,cs,rfl,h1,h2⟩:=h
    simp only [List.cons_append,RFs]
    exact ⟨c,cs ++ us,rfl,h1,rfs_app h2 k⟩
theorem rfs_chain {φ w} {cs : List Value} {off n m : Nat} {E F : List D} (h : RFs φ w E ((cs.drop off).take n)) (hm : m = off + n) (k : RFs φ w F (cs.drop m)) : RFs φ w (E ++ F) (cs.drop off):=by
  subst hm
  have:=rfs_app h k
  rwa [← List.drop_drop,List.take_append_drop] at this
theorem rfs_stop {φ w} {cs : List Value} {off : Nat} (h : cs.length = off) : RFs φ w [] (cs.drop off):=by
  rw [List.drop_of_length_le (by omega)]
  rfl
theorem reads_struct {T : TypeId} {fs : Array Field} {α : Type} {E : α → List D} {G : α → Prop} {fuel : Nat} {n : Nat} (hT : P.underlying T = some (.struct fs)) (hn : P.cellsOf T = n)
    (h : ∀ cs : List Value,cs.length = n → (∀ (i : Nat) f,fs[i]? = some f → ∃ y,DataW.trod enc P W 0 spare held fuel f.type ((cs.drop f.offset).take (P.cellsOf f.type)) = some y) → ∃ x,RFs (allCells W) W (E x) cs ∧ G x) :
    Reads enc P W spare held (fuel + 1) T E G:=fun cs y hy => by
  simp only [DataW.trod,hT] at hy
  split at hy
  · rename_i hl
    obtain ⟨xs,h1,_⟩:=Option.map_eq_some_iff.1 hy
    refine h cs (by omega) (fun i f hf => ?_)
    obtain ⟨b,h2,_⟩:=mapM_some h1 i f (by simpa using hf)
    exact ⟨b,h2⟩
  · cases hy
theorem reads_arg {T : TypeId} {v : Value} {d : DataW H} {ps : List MemPlace} {α : Type} {E : α → List D} {G : α → Prop} (hr : ∀ fuel,Reads enc P W spare held fuel T E G) (h : DataW.Trod enc P W 0 spare held T v d ps) : ∃ x,RFs (allCells W) W (E x) v.cells.toList ∧ G x:=by
  obtain ⟨fuel,h⟩:=h
  exact hr fuel _ _ h
theorem ra_one {φ w} {x : D} {v : Value} (h : RFs φ w [x] v.cells.toList) (hv : v.oneCell' = true) : RD φ w x v:=by
  rw [cells_one hv] at h
  simp only [RFs] at h
  obtain ⟨c,cs,e,h1,rfl⟩:=h
  simp only [List.cons.injEq,and_true] at e
  subst e
  exact h1
theorem ra_agg {φ w} {xs : List D} {cs : Array Value} (h : RFs φ w xs (Value.agg cs).cells.toList) : RD φ w (.ag xs) (.agg cs):=by
  simp only [RD]
  exact ⟨cs.toList,rfl,h⟩
theorem one_int {T : TypeId} {k : IntKind} {base : Nat} {v : Value} (hT : P.underlying T = some (.int k)) (h : Value.okWide P W .any base T v) : v.oneCell' = true:=by
  cases v <;> simp_all [Value.okWide,Cell.okWide,Cell.ok,Value.oneCell']
theorem agg_struct {T : TypeId} {fs : Array Field} {base : Nat} {v : Value} (hT : P.underlying T = some (.struct fs)) (h : Value.okWide P W .any base T v) : ∃ cs,v = .agg cs:=by
  simp only [Value.okWide,hT] at h
  obtain ⟨cs,h,_⟩:=h
  exact ⟨cs,h⟩
theorem trodAll_cons' {t : TypeId} {ts : List TypeId} {vs : List Value} {ds : List (DataW H)} {ps : List MemPlace} (h : DataW.TrodAll enc P W 0 spare held (t :: ts) vs ds ps) : ∃ v vs' d ds' p q,vs = v :: vs' ∧ ds = d :: ds' ∧ DataW.Trod enc P W 0 spare held t v d p ∧ DataW.TrodAll enc P W 0 spare held ts vs' ds' q:=by
  cases vs with
  | nil => cases ds <;> exact h.elim
  | cons v vs =>
    cases ds with
    | nil => exact h.elim
    | cons d ds =>
      obtain ⟨p,q,h1,h2,_⟩:=h
      exact ⟨v,vs,d,ds,p,q,rfl,rfl,h1,h2⟩
theorem trodAll_nil' {vs : List Value} {ds : List (DataW H)} {ps : List MemPlace} (h : DataW.TrodAll enc P W 0 spare held [] vs ds ps) : vs = []:=by
  cases vs with
  | nil => rfl
  | cons v vs => cases ds <;> exact h.elim
end
end Go.Sk
namespace Go.Sk
open Go.RowKit (Below)
open Go.ChangeShapes Go.WideShapes Go.ChangeAt Go.RowKit
theorem RFs_mapv {φ w} {α : Type} (f : α → Value) : ∀ l : List α,RFs φ w (l.map fun x => D.v (f x)) (l.map f)
  | [] => by simp [RFs]
  | x :: l => by
    simp only [List.map_cons,RFs]
    exact ⟨f x,l.map f,rfl,by simp [RD],RFs_mapv f l⟩
theorem table_laid {P : Program} {w : World} {name : String} {g n f : Nat} {t e : TypeId} {k : IntKind} {cs : Array Value} {sp : Nat → Bool} {tab : List Int} {p : List MemPlace} (hu : P.underlying t = some (.array n e)) (he : P.underlying e = some (.int k)) (hce : P.cellsOf e = 1) (hct : P.cellsOf t = n)
    (hg : P.globalNamed name = some g) (hv : w.var? P name = some cs) (hd : DataW.trod (fun _ => ()) P w 0 sp false f t cs.toList = some (.agg (tab.map fun n => .lit (.int k n)),p)) : RPs (allCells w) w (tab.map (D.i k)) g 0:=by
  obtain ⟨xs,m,rfl,hx,hlen,hn,hel⟩:=DataW.trod_array hu hd
  simp only [Prod.mk.injEq,DataW.agg.injEq] at hx
  have htl : tab.length = n:=by
    have:=congrArg List.length hx.1
    simp only [List.length_map] at this
    omega
  rw [hct] at hlen
  have hcell : ∀ i v,(tab.map (Value.int k))[i]? = some v → cs[i]? = some v:=fun i v hi => by
    rw [List.getElem?_map,Option.map_eq_some_iff] at hi
    obtain ⟨z,hz,rfl⟩:=hi
    have hin : i < n:=by rw [← htl]; exact (List.getElem?_eq_some_iff.1 hz).1
    have h1:=hel i hin
    have hxi : i < xs.length:=by omega
    rw [List.getElem?_eq_getElem hxi] at h1
    obtain ⟨n',e1,e2,_⟩:=DataW.trod_int he h1
    rw [hce,Nat.mul_one] at e1
    have h2 : (tab.map fun n => (DataW.lit (.int k n) : DataW Unit))[i]? = some (xs[i]).1:=by rw [hx.1,List.getElem?_map,List.getElem?_eq_getElem hxi]; rfl
    rw [List.getElem?_map,hz,e2] at h2
    simp only [Option.map_some,Option.some.injEq,DataW.lit.injEq,Lit.int.injEq,true_and] at h2
    subst h2
    have h3 : cs.toList[i]? = some (.int k z):=by
      have h4 : (cs.toList.drop i).take 1 = [Value.int k z]:=e1
      have h5 : ((cs.toList.drop i).take 1)[0]? = some (Value.int k z):=by rw [h4]; rfl
      rw [List.getElem?_take,if_pos (by omega),List.getElem?_drop] at h5
      simpa using h5
    simpa using h3
  have hall : allCells w g = cs.size:=by
    have h:=hv
    simp only [World.var?,hg,Option.bind_some] at h
    unfold allCells
    split at h
    · rename_i c _ _ hh
      simp only [Option.some.injEq] at h
      subst h
      rw [hh]
    · cases h
  have hm : tab.map (D.i k) = tab.map fun x => D.v (Value.int k x):=rfl
  rw [hm]
  refine RPs_of_cells (vs:=tab.map (Value.int k)) (RFs_mapv _ _) (fun j v hj => ?_)
  have h1:=hcell j v hj
  rw [Nat.zero_add,World.var?_cell hg hv,hall]
  exact ⟨(Array.getElem?_eq_some_iff.1 h1).1,h1⟩
theorem law_lifted_x {H : Type} {enc : TypeId × Value → H} {C : Checked} {os : Os} {f : FuncId} {fn : Func} {s : ChangeSpec} {conds : List PathCond} {tb : TypeId} (n : Nat) (X : World → Prop) (hX : ∀ w w' : World,w.heap = w'.heap → X w → X w') (own : ownKnob C.prog.godebug = none) (started : os.Started) (noInit : C.prog.inits.idxOf? f = none) (hfn : C.prog.funcs[f]? = some fn)
    (witness : ∃ (w : World) (tape : Tape) (i : Input),w.os = os ∧ (w.forCall tape i).Shaped C.prog ∧ i.vars = [] ∧ Input.okWide C.prog (w.forCall tape i) .any w.heap.size f i ∧
      ((s.pre enc C.prog fn conds false (w.forCall tape i).memory i.args ∧ X (w.forCall tape i).memory) ∧ sizedMet enc C.prog fn (OpenSpec.ofChange s) false (w.forCall tape i).memory i.args) ∧ ({} : Assume).holds C.prog (lone (Frame.enter C.prog f i.args .normal) [] (w.forCall tape i)))
    (hvars : s.vars = []) (hn : fn.params.size = n) (hres : fn.resultTypes = #[tb]) (hb : C.prog.underlying tb = some .bool)
    (hspec : ∀ ds : List (DataW H),ds.length = n → s.fn H ds = { results:=[.lit (.bool true)],args:=ds }) (hl : laidOutB C.prog = true)
    (htypes : (fn.params.toList.all fun t => C.prog.readableRec t && decide (t < C.prog.types.size)) = true)
    (hwalk : ∀ (W : World) (base : Nat) (args : Array Value) (ds : List (DataW H)) (p : List MemPlace),X W → (∀ (j : Nat) t v,fn.params[j]? = some t → args[j]? = some v → Value.okWide C.prog W .any base t v) →
      DataW.TrodAll enc C.prog W 0 (fun _ => true) true fn.params.toList args.toList ds p → (DataW.weightsEach C.prog fn.params.toList ds).all (· ≤ reachBytes) = true →
      Calls C.prog f args W fun e W' => e = .returned (.bool true) ∧ Below W.heap.size W W') :
    ReturnsInHanded {} C os f .any (fun w args => (s.pre enc C.prog fn conds false w args ∧ X w) ∧ sizedMet enc C.prog fn (OpenSpec.ofChange s) false w args) (s.post enc C.prog fn false true false false):=by
  refine returnsInHanded_of_change_and (X:=fun w _ => X w) (fun w w' _ hh h => hX w w' hh h) own started noInit hfn witness ?_
  intro W base args ds gs before hval hW _ hsz hXW _
  have hW':=hW
  obtain ⟨p,q,hA,hV,rfl,_,_⟩:=hW
  rw [hvars] at hV
  obtain ⟨rfl,rfl⟩:=trodVars_none hV
  have hvt : s.plain.varTypes C.prog = []:=by simp [DataSpec.varTypes,ChangeSpec.plain,hvars]
  rw [hvt] at hsz
  simp only [List.append_nil] at hsz hW'
  have hlt : ∀ y ∈ p,y.block < W.heap.size:=fun y hy => by simpa using hW'.lt y (by simp [hy])
  have hdl : ds.length = n:=by rw [(trodAll_len hA).1]; simpa using hn
  refine (hwalk W base args ds p hXW hval hA hsz).mono fun e W' ⟨he,hbel⟩ => ?_
  subst he
  refine ⟨_,rfl,ds,[],p,[],p,[],?_,?_,?_,?_,hbel.frame _,fun h => by cases h⟩
  · simpa using hW'
  · simp only [List.append_nil,hspec ds hdl,hres]
    exact trodAll_mk1 (shut_bool hb _)
  · simp only [List.append_nil,hspec ds hdl]
    exact below_trodAll hl hbel htypes hA hlt
  · simp only [List.append_nil,hspec ds hdl,hvars]
    rfl
end Go.Sk
namespace Go.Sk
open Go.ChangeShapes Go.WideShapes Go.ChangeAt Go.RowKit
theorem reads_vec {H : Type} {enc : TypeId × Value → H} {P : Program} {W : World} {spare : Nat → Bool} {held : Bool} {T e n : Nat} {A : Type} [Inhabited A] {EA : A → D} {G : A → Prop} (hT : P.underlying T = some (.array n e)) (hk : P.cellsOf e = 1) (hn : P.cellsOf T = n) {fuel : Nat}
    (he : Reads enc P W spare held fuel e (fun x : A => [EA x]) G) : Reads enc P W spare held (fuel + 1) T (fun F : Nat → A => vecC n (fun j => EA (F j))) (fun F => ∀ j,j < n → G (F j)):=fun cs y hy => by
  simp only [DataW.trod,hT] at hy
  split at hy
  · rename_i hl
    obtain ⟨xs,h1,_⟩:=Option.map_eq_some_iff.1 hy
    have hl' : cs.length = n:=by omega
    have hx : ∀ i,i < n → ∃ x : A,RFs (allCells W) W [EA x] ((cs.drop i).take 1) ∧ G x:=fun i hi => by
      obtain ⟨b,h2,_⟩:=mapM_some h1 i i (List.getElem?_range hi)
      rw [hk,Nat.mul_one] at h2
      exact he _ _ h2
    let F : Nat → A:=fun i => if h : i < n then Classical.choose (hx i h) else default
    have hF : ∀ i,i < n → RFs (allCells W) W [EA (F i)] ((cs.drop i).take 1) ∧ G (F i):=fun i hi => by
      have:=Classical.choose_spec (hx i hi)
      simp only [F,dif_pos hi]
      exact this
    refine ⟨F,?_,fun j hj => (hF j hj).2⟩
    have key : ∀ (m s : Nat),s + m = n → RFs (allCells W) W ((List.range' s m).map fun j => EA (F j)) (cs.drop s):=by
      intro m
      induction m with
      | zero =>
        intro s hs
        rw [List.drop_of_length_le (by omega)]
        rfl
      | succ m ih =>
        intro s hs
        have hlt : s < cs.length:=by omega
        have h3:=(hF s (by omega)).1
        rw [List.drop_eq_getElem_cons hlt] at h3 ⊢
        simp only [List.take_succ_cons,List.take_zero,RFs] at h3
        obtain ⟨c,cs',e1,h4,_⟩:=h3
        simp only [List.cons.injEq] at e1
        rw [List.range'_succ,List.map_cons]
        simp only [RFs]
        exact ⟨_,_,rfl,by rw [e1.1]; exact h4,ih (s + 1) (by omega)⟩
    have:=key n 0 (by omega)
    rw [List.drop_zero] at this
    unfold vecC
    rw [List.range_eq_range']
    exact this
  · cases hy
end Go.Sk
namespace Go.Sk
open Go.ChangeShapes Go.WideShapes Go.ChangeAt Go.RowKit
theorem flat2 {α : Type} (cs : Array Value) (f g : α → Value) : ∀ (tab : List α) (i0 : Nat),(∀ k p,tab[k]? = some p → cs[2 * (i0 + k)]? = some (f p) ∧ cs[2 * (i0 + k) + 1]? = some (g p)) → ∀ j v,(tab.flatMap fun p => [f p,g p])[j]? = some v → cs[2 * i0 + j]? = some v
  | [],i0,h,j,v,hv => by simp at hv
  | p :: r,i0,h,0,v,hv => by
    have:=(h 0 p rfl).1
    rw [List.flatMap_cons] at hv
    have e : f p = v:=Option.some.inj hv
    rw [← e]
    exact this
  | p :: r,i0,h,1,v,hv => by
    have:=(h 0 p rfl).2
    rw [List.flatMap_cons] at hv
    have e : g p = v:=Option.some.inj hv
    rw [← e]
    exact this
  | p :: r,i0,h,j + 2,v,hv => by
    rw [List.flatMap_cons] at hv
    have:=flat2 cs f g r (i0 + 1) (fun k q hq => by
      have:=h (k + 1) q (by simpa using hq)
      rw [show i0 + 1 + k = i0 + (k + 1) by omega]
      exact this) j v hv
    rw [show 2 * i0 + (j + 2) = 2 * (i0 + 1) + j by omega]
    exact this
theorem RFs_two {φ w} {α : Type} (f g : α → ByteArray) : ∀ l : List α,RFs φ w (l.flatMap fun x => [D.s (f x),D.s (g x)]) (l.flatMap fun x => [Value.string (f x),Value.string (g x)])
  | [] => by simp [RFs]
  | x :: l => by
    simp only [List.flatMap_cons,List.cons_append,List.nil_append,RFs]
    exact ⟨_,_,rfl,by simp [RD],_,_,rfl,by simp [RD],RFs_two f g l⟩
theorem table_laid_ss {P : Program} {w : World} {name : String} {g n f : Nat} {t e ts : TypeId} {f0 f1 : Field} {cs : Array Value} {sp : Nat → Bool} {tab : List (ByteArray × ByteArray)} {p : List MemPlace} (hu : P.underlying t = some (.array n e)) (he : P.underlying e = some (.struct #[f0,f1])) (h0 : f0.type = ts) (h1 : f1.type = ts) (o0 : f0.offset = 0) (o1 : f1.offset = 1) (hs : P.underlying ts = some .string) (hcs : P.cellsOf ts = 1) (hce : P.cellsOf e = 2) (hct : P.cellsOf t = 2 * n)
    (hg : P.globalNamed name = some g) (hv : w.var? P name = some cs) (hd : DataW.trod (fun _ => ()) P w 0 sp false f t cs.toList = some (.agg (tab.map fun p => .agg [.lit (.string p.1.data.toList),.lit (.string p.2.data.toList)]),p)) : RPs (allCells w) w (tab.flatMap fun p => [D.s p.1,D.s p.2]) g 0:=by
  obtain ⟨xs,m,rfl,hx,hlen,hn,hel⟩:=DataW.trod_array hu hd
  simp only [Prod.mk.injEq,DataW.agg.injEq] at hx
  have htl : tab.length = n:=by
    have:=congrArg List.length hx.1
    simp only [List.length_map] at this
    omega
  rw [hct] at hlen
  have one : ∀ (i : Nat) (s : ByteArray) (k : Nat),((cs.toList.drop (i * 2)).take 2 |>.drop k).take 1 = [Value.string s] → k < 2 → cs[2 * i + k]? = some (.string s):=fun i s k h hk => by
    have h5 : (((cs.toList.drop (i * 2)).take 2 |>.drop k).take 1)[0]? = some (Value.string s):=by rw [h]; rfl
    rw [List.getElem?_take,if_pos (by omega),List.getElem?_drop,List.getElem?_take,if_pos (by omega),List.getElem?_drop] at h5
    rw [show 2 * i + k = i * 2 + (k + 0) by omega,← Array.getElem?_toList]
    exact h5
  have hcell:=flat2 cs (fun p : ByteArray × ByteArray => Value.string p.1) (fun p => Value.string p.2) tab 0 (fun i q hq => by
    have hin : i < n:=by rw [← htl]; exact (List.getElem?_eq_some_iff.1 hq).1
    have h2:=hel i hin
    have hxi : i < xs.length:=by omega
    rw [List.getElem?_eq_getElem hxi] at h2
    obtain ⟨y0,y1,n',e1,_,e3,e4⟩:=trod_struct2 he h2
    rw [hce,o0,h0,hcs] at e3
    rw [hce,o1,h1,hcs] at e4
    obtain ⟨s0,a1,a2,_⟩:=DataW.trod_string hs e3
    obtain ⟨s1,b1,b2,_⟩:=DataW.trod_string hs e4
    have h3 : (tab.map fun p => (DataW.agg [.lit (.string p.1.data.toList),.lit (.string p.2.data.toList)] : DataW Unit))[i]? = some (xs[i]).1:=by rw [hx.1,List.getElem?_map,List.getElem?_eq_getElem hxi]; rfl
    rw [List.getElem?_map,hq,e1,a2,b2] at h3
    simp only [Option.map_some,Option.some.injEq,DataW.agg.injEq,List.cons.injEq,DataW.lit.injEq,Lit.string.injEq,and_true,Array.toList_inj] at h3
    have c0 : q.1 = s0:=ByteArray.ext h3.1
    have c1 : q.2 = s1:=ByteArray.ext h3.2
    rw [c0,c1,Nat.zero_add]
    exact ⟨one i s0 0 a1 (by omega),one i s1 1 b1 (by omega)⟩)
  have hall : allCells w g = cs.size:=by
    have h:=hv
    simp only [World.var?,hg,Option.bind_some] at h
    unfold allCells
    split at h
    · rename_i c _ _ hh
      simp only [Option.some.injEq] at h
      subst h
      rw [hh]
    · cases h
  refine RPs_of_cells (vs:=tab.flatMap fun p => [Value.string p.1,Value.string p.2]) (RFs_two _ _ _) (fun j v hj => ?_)
  have h1:=hcell j v hj
  rw [Nat.zero_add,World.var?_cell hg hv,hall]
  rw [Nat.mul_zero,Nat.zero_add] at h1
  exact ⟨(Array.getElem?_eq_some_iff.1 h1).1,h1⟩
end Go.Sk
